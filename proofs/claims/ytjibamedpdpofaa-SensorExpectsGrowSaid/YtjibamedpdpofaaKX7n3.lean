import Derived.Test.YtjibamedpdpofaaProg
import Derived.Test.YtjibamedpdpofaaSpMore
import Derived.Test.YtjibamedpdpofaaFX7
import Derived.Test.YtjibamedpdpofaaKX7n0
import Derived.Test.YtjibamedpdpofaaKX7n1
import Derived.Test.YtjibamedpdpofaaKX7n2
namespace Go.Sp.X7
open Go Go.Sp Go.Proofs
set_option linter.unusedVariables false
attribute [local irreducible] wpList AnyL Code.wp Calls Does
set_option maxRecDepth 100000 in
set_option maxHeartbeats 4000000 in
theorem num_Wide_Div.calls (k : Nat)  (vw1 : S_Wide) (d2 : Int) {t w : World} {f : FM} {H : List Seg} (HS : St t w f (H)) (r1 : Int) (r2 : Int) (h : num_Wide_Div k vw1 d2 = some (r1, r2)) :
    Calls Try.prog 65 #[.agg #[.int .i64 vw1.Hi, .int .u64 vw1.Lo], .int .i64 d2] w (fun e w' => ∃ (g : FM), e = .returned (Value.tuple #[.int .i64 r1, .int .i64 r2]) ∧ FM.le f g ∧ St t w' g (H)) := by
  unfold num_Wide_Div at h
  refine enter Try.func65 rfl (tm := #[.agg #[.int .i64 vw1.Hi, .int .u64 vw1.Lo], .int .i64 d2, undef, undef, undef, undef, undef, undef, undef, undef, undef, undef, undef, undef, undef, undef, undef, undef, undef, undef, undef, undef, undef, undef, undef, undef, undef, undef, undef, undef, undef, undef, undef, undef, undef, undef, undef, undef, undef, undef, undef, undef, undef, undef, undef, undef, undef, undef, undef, undef, undef, undef, undef, undef, undef, undef, undef, undef, undef, undef, undef]) (by kernel_rfl) ?_
  intro B hret hnor hnp
  refine wp_seq_k (fun K3 hK4 => ?_)
  refine wp_region_lit ?_
  refine seqK rfl (does_box (cs := #[.int .i64 vw1.Hi, .int .u64 vw1.Lo]) rfl (by kernel_rfl : _ = Value.agg #[.int .i64 vw1.Hi, .int .u64 vw1.Lo]) rfl HS ?_)
  intro b5 W6 HS7
  refine seqS2 (a' := ⟨#[.agg #[.int .i64 vw1.Hi, .int .u64 vw1.Lo], .int .i64 d2, .pointer (some ⟨b5, 0, none⟩), undef, .int .i64 0, .int .i64 0, undef, undef, undef, undef, undef, undef, undef, undef, undef, undef, undef, undef, undef, undef, undef, undef, undef, undef, undef, undef, undef, undef, undef, undef, undef, undef, undef, undef, undef, undef, undef, undef, undef, undef, undef, undef, undef, undef, undef, undef, undef, undef, undef, undef, undef, undef, undef, undef, undef, undef, undef, undef, undef, undef, undef], []⟩) (by kernel_rfl) ?_
  refine wpList_nil ?_
  refine hK4 _ _ ?_
  refine wp_seq_k (fun K9 hK10 => ?_)
  refine wp_seq_k (fun K11 hK12 => ?_)
  refine wp_region_lit ?_
  refine seqS2 (a' := ⟨#[.agg #[.int .i64 vw1.Hi, .int .u64 vw1.Lo], .int .i64 d2, .pointer (some ⟨b5, 0, none⟩), undef, .int .i64 0, .int .i64 0, undef, undef, undef, undef, .int .i64 d2, .bool (decide (d2 < 1)), undef, undef, undef, undef, undef, undef, undef, undef, undef, undef, undef, undef, undef, undef, undef, undef, undef, undef, undef, undef, undef, undef, undef, undef, undef, undef, undef, undef, undef, undef, undef, undef, undef, undef, undef, undef, undef, undef, undef, undef, undef, undef, undef, undef, undef, undef, undef, undef, undef], []⟩) (by kernel_rfl) ?_
  refine wpList_nil ?_
  refine hK12 _ _ ?_
  have hq_ := ite_some h; clear h; rcases hq_ with ⟨c14, h⟩ | ⟨c14, h⟩
  · have c14 : d2 < 1 := c14
    refine wpRwI 11 (x := (decide (d2 < 1))) (v := true) (by kernel_rfl) (decide_eq_true c14) ?_
    refine condT (by kernel_rfl) ?_
    refine wp_seq_k (fun K15 hK16 => ?_)
    refine wp_region_lit ?_
    refine seqS2 (a' := ⟨#[.agg #[.int .i64 vw1.Hi, .int .u64 vw1.Lo], .int .i64 d2, .pointer (some ⟨b5, 0, none⟩), undef, .int .i64 0, .int .i64 1, undef, undef, undef, undef, .int .i64 d2, .bool true, undef, undef, undef, undef, undef, undef, undef, undef, undef, undef, undef, undef, undef, undef, undef, undef, undef, undef, undef, undef, undef, undef, undef, undef, undef, undef, undef, undef, undef, undef, undef, undef, undef, undef, undef, undef, undef, undef, undef, undef, undef, undef, undef, undef, undef, undef, undef, undef, undef], []⟩) (by kernel_rfl) ?_
    refine wpList_nil ?_
    refine hK16 _ _ ?_
    refine wp_ret ?_
    refine hret _ _ ?_
    refine ends_still (v := Value.tuple #[.int .i64 0, .int .i64 1]) (by kernel_rfl) (by kernel_rfl) ?_
    have HS129 := HS7.drop
    injection h with h
    injection h with h0_ h
    subst h0_ h
    exact ⟨f, rfl, FM.le.refl _, HS129⟩
  · have c14 : ¬ (d2 < 1) := c14
    refine wpRwI 11 (x := (decide (d2 < 1))) (v := false) (by kernel_rfl) (decide_eq_false c14) ?_
    refine condF (by kernel_rfl) ?_
    refine wp_skip ?_
    refine hK10 _ _ ?_
    refine wp_seq_k (fun K17 hK18 => ?_)
    refine wp_region_lit ?_
    refine seqK rfl (does_run (run_loadN (n := 2) rfl Try.underlying94 rfl (by kernel_rfl) (by kernel_rfl : _ = Value.pointer (some ⟨b5, 0, none⟩)) (cs := [.int .i64 vw1.Hi, .int .u64 vw1.Lo]) rfl (HS7.cells 0 2 _ rfl)) ?_)
    refine seqK rfl (does_alloc (z := Value.agg #[.int .i64 0, .int .u64 0]) (cs := #[.int .i64 0, .int .u64 0]) rfl (by kernel_rfl) rfl HS7 ?_)
    intro b19 W20 HS21
    refine seqK rfl (does_store (n := 2) (vs := [.int .i64 vw1.Hi, .int .u64 vw1.Lo]) (cs' := #[.int .i64 vw1.Hi, .int .u64 vw1.Lo]) rfl (by kernel_rfl) (by kernel_rfl : _ = Value.pointer (some ⟨b19, 0, none⟩)) (by kernel_rfl : _ = Value.agg #[.int .i64 vw1.Hi, .int .u64 vw1.Lo]) rfl rfl (by intro u_ hu_; simp only [List.mem_cons, List.not_mem_nil, or_false] at hu_; rcases hu_ with rfl | rfl <;> rfl) HS21 (Nat.le_of_ble_eq_true rfl) (by kernel_rfl) ?_)
    intro W23 HS24
    refine wpList_nil ?_
    refine hK18 _ _ ?_
    refine wp_seq_k (fun K25 hK26 => ?_)
    refine wp_seq_k (fun K27 hK28 => ?_)
    refine wp_region_lit ?_
    refine seqL1 (by kernel_rfl) ?_
    refine seqK rfl (does_run (run_load rfl Try.underlying2 rfl (by kernel_rfl : _ = Value.pointer (some ⟨b5, 0, none⟩)) (HS24.u1.cell 0)) ?_)
    refine seqS1 (a' := ⟨#[.agg #[.int .i64 vw1.Hi, .int .u64 vw1.Lo], .int .i64 d2, .pointer (some ⟨b5, 0, none⟩), undef, .int .i64 0, .int .i64 0, .pointer (some ⟨b19, 0, none⟩), undef, undef, undef, .int .i64 d2, .bool false, .agg #[.int .i64 vw1.Hi, .int .u64 vw1.Lo], .pointer (some ⟨b5, 0, none⟩), .int .i64 vw1.Hi, .bool (decide (vw1.Hi < 0)), undef, undef, undef, undef, undef, undef, undef, undef, undef, undef, undef, undef, undef, undef, undef, undef, undef, undef, undef, undef, undef, undef, undef, undef, undef, undef, undef, undef, undef, undef, undef, undef, undef, undef, undef, undef, undef, undef, undef, undef, undef, undef, undef, undef, undef], []⟩) (by kernel_rfl) ?_
    refine wpList_nil ?_
    refine hK28 _ _ ?_
    have hq_ := bind_some h; clear h; obtain ⟨v29, hv46, h⟩ := hq_
    have J47 : ∀ (f39 : FM) (x44 : Int) (x45 : Int) (j43 : Nat → Value) (W41 : World) (a_ : Act), FM.le f f39 → some ((x44, x45)) = some v29 → St t W41 f39 ([(b19, .cells #[.int .i64 x44, .int .u64 x45] 94 (0, 0))] :: [(b5, .cells #[.int .i64 vw1.Hi, .int .u64 vw1.Lo] 94 (0, 0))] :: H) → a_ = ⟨#[.agg #[.int .i64 vw1.Hi, .int .u64 vw1.Lo], .int .i64 d2, .pointer (some ⟨b5, 0, none⟩), undef, .int .i64 0, .int .i64 0, .pointer (some ⟨b19, 0, none⟩), undef, undef, undef, .int .i64 d2, .bool false, .agg #[.int .i64 vw1.Hi, .int .u64 vw1.Lo], .pointer (some ⟨b5, 0, none⟩), .int .i64 vw1.Hi, (j43 0), (j43 1), (j43 2), undef, undef, undef, undef, undef, undef, undef, undef, undef, undef, undef, undef, undef, undef, undef, undef, undef, undef, undef, undef, undef, undef, undef, undef, undef, undef, undef, undef, undef, undef, undef, undef, undef, undef, undef, undef, undef, undef, undef, undef, undef, undef, undef], []⟩ → K25 a_ W41 := by
      intro f39 x44 x45 j43 W41 a_ L40 hj48 HS42  hfr_; subst hfr_
      injection hj48 with hj48; subst hj48; try dsimp only at h
      refine hK26 _ _ ?_
      refine wp_seq_k (fun K49 hK50 => ?_)
      refine wp_seq_k (fun K51 hK52 => ?_)
      refine wp_region_lit ?_
      refine seqL1 (by kernel_rfl) ?_
      refine seqK rfl (does_run (run_load rfl Try.underlying2 rfl (by kernel_rfl : _ = Value.pointer (some ⟨b19, 0, none⟩)) (HS42.cell 0)) ?_)
      refine seqS4 (a' := ⟨#[.agg #[.int .i64 vw1.Hi, .int .u64 vw1.Lo], .int .i64 d2, .pointer (some ⟨b5, 0, none⟩), undef, .int .i64 0, .int .i64 0, .pointer (some ⟨b19, 0, none⟩), undef, undef, undef, .int .i64 d2, .bool false, .agg #[.int .i64 vw1.Hi, .int .u64 vw1.Lo], .pointer (some ⟨b5, 0, none⟩), .int .i64 vw1.Hi, (j43 0), (j43 1), (j43 2), .pointer (some ⟨b19, 0, none⟩), .int .i64 x44, .int .u64 (u64 (x44)), .int .i64 d2, .int .u64 (u64 (d2)), .bool (decide ((u64 (x44)) ≥ (u64 (d2)))), undef, undef, undef, undef, undef, undef, undef, undef, undef, undef, undef, undef, undef, undef, undef, undef, undef, undef, undef, undef, undef, undef, undef, undef, undef, undef, undef, undef, undef, undef, undef, undef, undef, undef, undef, undef, undef], []⟩) (by kernel_rfl) ?_
      refine wpList_nil ?_
      refine hK52 _ _ ?_
      have hq_ := ite_some h; clear h; rcases hq_ with ⟨c54, h⟩ | ⟨c54, h⟩
      · have c54 : (u64 (x44)) ≥ (u64 (d2)) := c54
        refine wpRwI 23 (x := (decide ((u64 (x44)) ≥ (u64 (d2))))) (v := true) (by kernel_rfl) (decide_eq_true c54) ?_
        refine condT (by kernel_rfl) ?_
        refine wp_seq_k (fun K55 hK56 => ?_)
        refine wp_region_lit ?_
        refine seqS2 (a' := ⟨#[.agg #[.int .i64 vw1.Hi, .int .u64 vw1.Lo], .int .i64 d2, .pointer (some ⟨b5, 0, none⟩), undef, .int .i64 0, .int .i64 2, .pointer (some ⟨b19, 0, none⟩), undef, undef, undef, .int .i64 d2, .bool false, .agg #[.int .i64 vw1.Hi, .int .u64 vw1.Lo], .pointer (some ⟨b5, 0, none⟩), .int .i64 vw1.Hi, (j43 0), (j43 1), (j43 2), .pointer (some ⟨b19, 0, none⟩), .int .i64 x44, .int .u64 (u64 (x44)), .int .i64 d2, .int .u64 (u64 (d2)), .bool true, undef, undef, undef, undef, undef, undef, undef, undef, undef, undef, undef, undef, undef, undef, undef, undef, undef, undef, undef, undef, undef, undef, undef, undef, undef, undef, undef, undef, undef, undef, undef, undef, undef, undef, undef, undef, undef], []⟩) (by kernel_rfl) ?_
        refine wpList_nil ?_
        refine hK56 _ _ ?_
        refine wp_ret ?_
        refine hret _ _ ?_
        refine ends_still (v := Value.tuple #[.int .i64 0, .int .i64 2]) (by kernel_rfl) (by kernel_rfl) ?_
        have HS130 := HS42.drop
        have HS131 := HS130.drop
        injection h with h
        injection h with h0_ h
        subst h0_ h
        exact ⟨f39, rfl, L40, HS131⟩
      · have c54 : ¬ ((u64 (x44)) ≥ (u64 (d2))) := c54
        refine wpRwI 23 (x := (decide ((u64 (x44)) ≥ (u64 (d2))))) (v := false) (by kernel_rfl) (decide_eq_false c54) ?_
        refine condF (by kernel_rfl) ?_
        refine wp_skip ?_
        refine hK50 _ _ ?_
        refine wp_seq_k (fun K57 hK58 => ?_)
        refine wp_region_lit ?_
        refine seqL1 (by kernel_rfl) ?_
        refine seqK rfl (does_run (run_load rfl Try.underlying2 rfl (by kernel_rfl : _ = Value.pointer (some ⟨b19, 0, none⟩)) (HS42.cell 0)) ?_)
        refine seqL2 (by kernel_rfl) ?_
        refine seqK rfl (does_run (run_load rfl Try.underlying34 rfl (by kernel_rfl : _ = Value.pointer (some ⟨b19, 1, none⟩)) (HS42.cell 1)) ?_)
        have hq_ := bind_some h; clear h; obtain ⟨⟨vt59, vt60⟩, hc61, h⟩ := hq_
        refine seqL2 (by kernel_rfl) ?_
        refine seqK rfl (does_call (f := 83) (args := #[.int .u64 (u64 (x44)), .int .u64 x45, .int .u64 (u64 (d2))]) (by kernel_rfl) (bits_Div64.calls k (u64 (x44)) x45 (u64 (d2)) HS42 vt59 vt60 hc61) ?_)
        rintro _ W64 ⟨f62, rfl, L63, HS65⟩
        refine ⟨_, rfl, ?_⟩
        refine seqS5 (a' := ⟨#[.agg #[.int .i64 vw1.Hi, .int .u64 vw1.Lo], .int .i64 d2, .pointer (some ⟨b5, 0, none⟩), undef, .int .i64 0, .int .i64 0, .pointer (some ⟨b19, 0, none⟩), .int .u64 vt59, .int .u64 vt60, undef, .int .i64 d2, .bool false, .agg #[.int .i64 vw1.Hi, .int .u64 vw1.Lo], .pointer (some ⟨b5, 0, none⟩), .int .i64 vw1.Hi, (j43 0), (j43 1), (j43 2), .pointer (some ⟨b19, 0, none⟩), .int .i64 x44, .int .u64 (u64 (x44)), .int .i64 d2, .int .u64 (u64 (d2)), .bool false, .tuple #[.int .u64 vt59, .int .u64 vt60], .pointer (some ⟨b19, 0, none⟩), .int .i64 x44, .int .u64 (u64 (x44)), .pointer (some ⟨b19, 1, none⟩), .int .u64 x45, .int .i64 d2, .int .u64 (u64 (d2)), .tuple #[.int .u64 vt59, .int .u64 vt60], .int .u64 vt59, .int .u64 vt60, undef, undef, undef, undef, undef, undef, undef, undef, undef, undef, undef, undef, undef, undef, undef, undef, undef, undef, undef, undef, undef, undef, undef, undef, undef, undef], []⟩) (by kernel_rfl) ?_
        refine wpList_nil ?_
        refine hK58 _ _ ?_
        refine wp_seq_k (fun K66 hK67 => ?_)
        refine wp_region_lit ?_
        refine seqS1 (a' := ⟨#[.agg #[.int .i64 vw1.Hi, .int .u64 vw1.Lo], .int .i64 d2, .pointer (some ⟨b5, 0, none⟩), undef, .int .i64 0, .int .i64 0, .pointer (some ⟨b19, 0, none⟩), .int .u64 vt59, .int .u64 vt60, .int .u64 9223372036854775807, .int .i64 d2, .bool false, .agg #[.int .i64 vw1.Hi, .int .u64 vw1.Lo], .pointer (some ⟨b5, 0, none⟩), .int .i64 vw1.Hi, (j43 0), (j43 1), (j43 2), .pointer (some ⟨b19, 0, none⟩), .int .i64 x44, .int .u64 (u64 (x44)), .int .i64 d2, .int .u64 (u64 (d2)), .bool false, .tuple #[.int .u64 vt59, .int .u64 vt60], .pointer (some ⟨b19, 0, none⟩), .int .i64 x44, .int .u64 (u64 (x44)), .pointer (some ⟨b19, 1, none⟩), .int .u64 x45, .int .i64 d2, .int .u64 (u64 (d2)), .tuple #[.int .u64 vt59, .int .u64 vt60], .int .u64 vt59, .int .u64 vt60, undef, undef, undef, undef, undef, undef, undef, undef, undef, undef, undef, undef, undef, undef, undef, undef, undef, undef, undef, undef, undef, undef, undef, undef, undef, undef], []⟩) (by kernel_rfl) ?_
        refine wpList_nil ?_
        refine hK67 _ _ ?_
        refine wp_seq_k (fun K68 hK69 => ?_)
        refine wp_seq_k (fun K70 hK71 => ?_)
        refine wp_region_lit ?_
        refine seqL1 (by kernel_rfl) ?_
        refine seqK rfl (does_run (run_load rfl Try.underlying2 rfl (by kernel_rfl : _ = Value.pointer (some ⟨b5, 0, none⟩)) (HS65.u1.cell 0)) ?_)
        refine seqS1 (a' := ⟨#[.agg #[.int .i64 vw1.Hi, .int .u64 vw1.Lo], .int .i64 d2, .pointer (some ⟨b5, 0, none⟩), undef, .int .i64 0, .int .i64 0, .pointer (some ⟨b19, 0, none⟩), .int .u64 vt59, .int .u64 vt60, .int .u64 9223372036854775807, .int .i64 d2, .bool false, .agg #[.int .i64 vw1.Hi, .int .u64 vw1.Lo], .pointer (some ⟨b5, 0, none⟩), .int .i64 vw1.Hi, (j43 0), (j43 1), (j43 2), .pointer (some ⟨b19, 0, none⟩), .int .i64 x44, .int .u64 (u64 (x44)), .int .i64 d2, .int .u64 (u64 (d2)), .bool false, .tuple #[.int .u64 vt59, .int .u64 vt60], .pointer (some ⟨b19, 0, none⟩), .int .i64 x44, .int .u64 (u64 (x44)), .pointer (some ⟨b19, 1, none⟩), .int .u64 x45, .int .i64 d2, .int .u64 (u64 (d2)), .tuple #[.int .u64 vt59, .int .u64 vt60], .int .u64 vt59, .int .u64 vt60, .pointer (some ⟨b5, 0, none⟩), .int .i64 vw1.Hi, .bool (decide (vw1.Hi < 0)), undef, undef, undef, undef, undef, undef, undef, undef, undef, undef, undef, undef, undef, undef, undef, undef, undef, undef, undef, undef, undef, undef, undef], []⟩) (by kernel_rfl) ?_
        refine wpList_nil ?_
        refine hK71 _ _ ?_
        have hq_ := bind_some h; clear h; obtain ⟨v72, hv95, h⟩ := hq_
        have J96 : ∀ (f89 : FM) (most94 : Int) (j93 : Nat → Value) (W91 : World) (a_ : Act), FM.le f62 f89 → some (most94) = some v72 → St t W91 f89 ([(b19, .cells #[.int .i64 x44, .int .u64 x45] 94 (0, 0))] :: [(b5, .cells #[.int .i64 vw1.Hi, .int .u64 vw1.Lo] 94 (0, 0))] :: H) → a_ = ⟨#[.agg #[.int .i64 vw1.Hi, .int .u64 vw1.Lo], .int .i64 d2, .pointer (some ⟨b5, 0, none⟩), undef, .int .i64 0, .int .i64 0, .pointer (some ⟨b19, 0, none⟩), .int .u64 vt59, .int .u64 vt60, .int .u64 most94, .int .i64 d2, .bool false, .agg #[.int .i64 vw1.Hi, .int .u64 vw1.Lo], .pointer (some ⟨b5, 0, none⟩), .int .i64 vw1.Hi, (j43 0), (j43 1), (j43 2), .pointer (some ⟨b19, 0, none⟩), .int .i64 x44, .int .u64 (u64 (x44)), .int .i64 d2, .int .u64 (u64 (d2)), .bool false, .tuple #[.int .u64 vt59, .int .u64 vt60], .pointer (some ⟨b19, 0, none⟩), .int .i64 x44, .int .u64 (u64 (x44)), .pointer (some ⟨b19, 1, none⟩), .int .u64 x45, .int .i64 d2, .int .u64 (u64 (d2)), .tuple #[.int .u64 vt59, .int .u64 vt60], .int .u64 vt59, .int .u64 vt60, .pointer (some ⟨b5, 0, none⟩), .int .i64 vw1.Hi, (j93 0), (j93 1), (j93 2), (j93 3), (j93 4), undef, undef, undef, undef, undef, undef, undef, undef, undef, undef, undef, undef, undef, undef, undef, undef, undef, undef, undef], []⟩ → K68 a_ W91 := by
          intro f89 most94 j93 W91 a_ L90 hj97 HS92  hfr_; subst hfr_
          injection hj97 with hj97; subst hj97; try dsimp only at h
          refine hK69 _ _ ?_
          refine wp_seq_k (fun K98 hK99 => ?_)
          refine wp_seq_k (fun K100 hK101 => ?_)
          refine wp_region_lit ?_
          refine seqS3 (a' := ⟨#[.agg #[.int .i64 vw1.Hi, .int .u64 vw1.Lo], .int .i64 d2, .pointer (some ⟨b5, 0, none⟩), undef, .int .i64 0, .int .i64 0, .pointer (some ⟨b19, 0, none⟩), .int .u64 vt59, .int .u64 vt60, .int .u64 most94, .int .i64 d2, .bool false, .agg #[.int .i64 vw1.Hi, .int .u64 vw1.Lo], .pointer (some ⟨b5, 0, none⟩), .int .i64 vw1.Hi, (j43 0), (j43 1), (j43 2), .pointer (some ⟨b19, 0, none⟩), .int .i64 x44, .int .u64 (u64 (x44)), .int .i64 d2, .int .u64 (u64 (d2)), .bool false, .tuple #[.int .u64 vt59, .int .u64 vt60], .pointer (some ⟨b19, 0, none⟩), .int .i64 x44, .int .u64 (u64 (x44)), .pointer (some ⟨b19, 1, none⟩), .int .u64 x45, .int .i64 d2, .int .u64 (u64 (d2)), .tuple #[.int .u64 vt59, .int .u64 vt60], .int .u64 vt59, .int .u64 vt60, .pointer (some ⟨b5, 0, none⟩), .int .i64 vw1.Hi, (j93 0), (j93 1), (j93 2), (j93 3), (j93 4), .int .u64 vt59, .int .u64 most94, .bool (decide (vt59 > most94)), undef, undef, undef, undef, undef, undef, undef, undef, undef, undef, undef, undef, undef, undef, undef, undef], []⟩) (by kernel_rfl) ?_
          refine wpList_nil ?_
          refine hK101 _ _ ?_
          have hq_ := ite_some h; clear h; rcases hq_ with ⟨c103, h⟩ | ⟨c103, h⟩
          · have c103 : vt59 > most94 := c103
            refine wpRwI 44 (x := (decide (vt59 > most94))) (v := true) (by kernel_rfl) (decide_eq_true c103) ?_
            refine condT (by kernel_rfl) ?_
            refine wp_seq_k (fun K104 hK105 => ?_)
            refine wp_region_lit ?_
            refine seqS2 (a' := ⟨#[.agg #[.int .i64 vw1.Hi, .int .u64 vw1.Lo], .int .i64 d2, .pointer (some ⟨b5, 0, none⟩), undef, .int .i64 0, .int .i64 2, .pointer (some ⟨b19, 0, none⟩), .int .u64 vt59, .int .u64 vt60, .int .u64 most94, .int .i64 d2, .bool false, .agg #[.int .i64 vw1.Hi, .int .u64 vw1.Lo], .pointer (some ⟨b5, 0, none⟩), .int .i64 vw1.Hi, (j43 0), (j43 1), (j43 2), .pointer (some ⟨b19, 0, none⟩), .int .i64 x44, .int .u64 (u64 (x44)), .int .i64 d2, .int .u64 (u64 (d2)), .bool false, .tuple #[.int .u64 vt59, .int .u64 vt60], .pointer (some ⟨b19, 0, none⟩), .int .i64 x44, .int .u64 (u64 (x44)), .pointer (some ⟨b19, 1, none⟩), .int .u64 x45, .int .i64 d2, .int .u64 (u64 (d2)), .tuple #[.int .u64 vt59, .int .u64 vt60], .int .u64 vt59, .int .u64 vt60, .pointer (some ⟨b5, 0, none⟩), .int .i64 vw1.Hi, (j93 0), (j93 1), (j93 2), (j93 3), (j93 4), .int .u64 vt59, .int .u64 most94, .bool true, undef, undef, undef, undef, undef, undef, undef, undef, undef, undef, undef, undef, undef, undef, undef, undef], []⟩) (by kernel_rfl) ?_
            refine wpList_nil ?_
            refine hK105 _ _ ?_
            refine wp_ret ?_
            refine hret _ _ ?_
            refine ends_still (v := Value.tuple #[.int .i64 0, .int .i64 2]) (by kernel_rfl) (by kernel_rfl) ?_
            have HS132 := HS92.drop
            have HS133 := HS132.drop
            injection h with h
            injection h with h0_ h
            subst h0_ h
            exact ⟨f89, rfl, (L40.trans (L63.trans L90)), HS133⟩
          · have c103 : ¬ (vt59 > most94) := c103
            refine wpRwI 44 (x := (decide (vt59 > most94))) (v := false) (by kernel_rfl) (decide_eq_false c103) ?_
            refine condF (by kernel_rfl) ?_
            refine wp_skip ?_
            refine hK99 _ _ ?_
            refine wp_seq_k (fun K106 hK107 => ?_)
            refine blockK (fun B108 hx109 hn110 hr111 ho112 hp113 => ?_)
            refine wp_seq_k (fun K115 hK116 => ?_)
            refine wp_region_lit ?_
            refine seqL1 (by kernel_rfl) ?_
            refine seqK rfl (does_run (run_load rfl Try.underlying2 rfl (by kernel_rfl : _ = Value.pointer (some ⟨b5, 0, none⟩)) (HS92.u1.cell 0)) ?_)
            refine seqS2 (a' := ⟨#[.agg #[.int .i64 vw1.Hi, .int .u64 vw1.Lo], .int .i64 d2, .pointer (some ⟨b5, 0, none⟩), undef, .int .i64 0, .int .i64 0, .pointer (some ⟨b19, 0, none⟩), .int .u64 vt59, .int .u64 vt60, .int .u64 most94, .int .i64 d2, .bool false, .agg #[.int .i64 vw1.Hi, .int .u64 vw1.Lo], .pointer (some ⟨b5, 0, none⟩), .int .i64 vw1.Hi, (j43 0), (j43 1), (j43 2), .pointer (some ⟨b19, 0, none⟩), .int .i64 x44, .int .u64 (u64 (x44)), .int .i64 d2, .int .u64 (u64 (d2)), .bool false, .tuple #[.int .u64 vt59, .int .u64 vt60], .pointer (some ⟨b19, 0, none⟩), .int .i64 x44, .int .u64 (u64 (x44)), .pointer (some ⟨b19, 1, none⟩), .int .u64 x45, .int .i64 d2, .int .u64 (u64 (d2)), .tuple #[.int .u64 vt59, .int .u64 vt60], .int .u64 vt59, .int .u64 vt60, .pointer (some ⟨b5, 0, none⟩), .int .i64 vw1.Hi, (j93 0), (j93 1), (j93 2), (j93 3), (j93 4), .int .u64 vt59, .int .u64 most94, .bool false, .bool (decide (vw1.Hi ≥ 0)), .pointer (some ⟨b5, 0, none⟩), .int .i64 vw1.Hi, .bool (decide (vw1.Hi ≥ 0)), undef, undef, undef, undef, undef, undef, undef, undef, undef, undef, undef, undef], []⟩) (by kernel_rfl) ?_
            refine wpList_nil ?_
            refine hK116 _ _ ?_
            have hq_ := ite_some h; clear h; rcases hq_ with ⟨c118, h⟩ | ⟨c118, h⟩
            · have c118 : vw1.Hi ≥ 0 := c118
              refine wpRwI 45 (x := (decide (vw1.Hi ≥ 0))) (v := true) (by kernel_rfl) (decide_eq_true c118) ?_
              refine wpRwI 48 (x := (decide (vw1.Hi ≥ 0))) (v := true) (by kernel_rfl) (decide_eq_true c118) ?_
              refine condT (by kernel_rfl) ?_
              refine wp_seq_k (fun K119 hK120 => ?_)
              refine wp_region_lit ?_
              refine seqS4 (a' := ⟨#[.agg #[.int .i64 vw1.Hi, .int .u64 vw1.Lo], .int .i64 d2, .pointer (some ⟨b5, 0, none⟩), undef, .int .i64 (w64 (vt59)), .int .i64 0, .pointer (some ⟨b19, 0, none⟩), .int .u64 vt59, .int .u64 vt60, .int .u64 most94, .int .i64 d2, .bool false, .agg #[.int .i64 vw1.Hi, .int .u64 vw1.Lo], .pointer (some ⟨b5, 0, none⟩), .int .i64 vw1.Hi, (j43 0), (j43 1), (j43 2), .pointer (some ⟨b19, 0, none⟩), .int .i64 x44, .int .u64 (u64 (x44)), .int .i64 d2, .int .u64 (u64 (d2)), .bool false, .tuple #[.int .u64 vt59, .int .u64 vt60], .pointer (some ⟨b19, 0, none⟩), .int .i64 x44, .int .u64 (u64 (x44)), .pointer (some ⟨b19, 1, none⟩), .int .u64 x45, .int .i64 d2, .int .u64 (u64 (d2)), .tuple #[.int .u64 vt59, .int .u64 vt60], .int .u64 vt59, .int .u64 vt60, .pointer (some ⟨b5, 0, none⟩), .int .i64 vw1.Hi, (j93 0), (j93 1), (j93 2), (j93 3), (j93 4), .int .u64 vt59, .int .u64 most94, .bool false, .bool true, .pointer (some ⟨b5, 0, none⟩), .int .i64 vw1.Hi, .bool true, .int .u64 vt59, .int .i64 (w64 (vt59)), undef, undef, undef, undef, undef, undef, undef, undef, undef, undef], []⟩) (by kernel_rfl) ?_
              refine wpList_nil ?_
              refine hK120 _ _ ?_
              refine wp_ret ?_
              refine hr111 _ _ ?_
              refine hret _ _ ?_
              refine ends_still (v := Value.tuple #[.int .i64 (w64 (vt59)), .int .i64 0]) (by kernel_rfl) (by kernel_rfl) ?_
              have HS134 := HS92.drop
              have HS135 := HS134.drop
              injection h with h
              injection h with h0_ h
              subst h0_ h
              exact ⟨f89, rfl, (L40.trans (L63.trans L90)), HS135⟩
            · have c118 : ¬ (vw1.Hi ≥ 0) := c118
              refine wpRwI 45 (x := (decide (vw1.Hi ≥ 0))) (v := false) (by kernel_rfl) (decide_eq_false c118) ?_
              refine wpRwI 48 (x := (decide (vw1.Hi ≥ 0))) (v := false) (by kernel_rfl) (decide_eq_false c118) ?_
              refine condF (by kernel_rfl) ?_
              refine wp_seq_k (fun K121 hK122 => ?_)
              refine wp_region_lit ?_
              refine seqS3 (a' := ⟨#[.agg #[.int .i64 vw1.Hi, .int .u64 vw1.Lo], .int .i64 d2, .pointer (some ⟨b5, 0, none⟩), undef, .int .i64 0, .int .i64 0, .pointer (some ⟨b19, 0, none⟩), .int .u64 vt59, .int .u64 vt60, .int .u64 most94, .int .i64 d2, .bool false, .agg #[.int .i64 vw1.Hi, .int .u64 vw1.Lo], .pointer (some ⟨b5, 0, none⟩), .int .i64 vw1.Hi, (j43 0), (j43 1), (j43 2), .pointer (some ⟨b19, 0, none⟩), .int .i64 x44, .int .u64 (u64 (x44)), .int .i64 d2, .int .u64 (u64 (d2)), .bool false, .tuple #[.int .u64 vt59, .int .u64 vt60], .pointer (some ⟨b19, 0, none⟩), .int .i64 x44, .int .u64 (u64 (x44)), .pointer (some ⟨b19, 1, none⟩), .int .u64 x45, .int .i64 d2, .int .u64 (u64 (d2)), .tuple #[.int .u64 vt59, .int .u64 vt60], .int .u64 vt59, .int .u64 vt60, .pointer (some ⟨b5, 0, none⟩), .int .i64 vw1.Hi, (j93 0), (j93 1), (j93 2), (j93 3), (j93 4), .int .u64 vt59, .int .u64 most94, .bool false, .bool false, .pointer (some ⟨b5, 0, none⟩), .int .i64 vw1.Hi, .bool false, undef, undef, .bool (decide (vt60 > 0)), .int .u64 vt60, .bool (decide (vt60 > 0)), undef, undef, undef, undef, undef, undef, undef], []⟩) (by kernel_rfl) ?_
              refine wpList_nil ?_
              refine hK122 _ _ ?_
              have hq_ := ite_some h; clear h; rcases hq_ with ⟨c124, h⟩ | ⟨c124, h⟩
              · have c124 : vt60 > 0 := c124
                refine wpRwI 51 (x := (decide (vt60 > 0))) (v := true) (by kernel_rfl) (decide_eq_true c124) ?_
                refine wpRwI 53 (x := (decide (vt60 > 0))) (v := true) (by kernel_rfl) (decide_eq_true c124) ?_
                refine condT (by kernel_rfl) ?_
                refine wp_seq_k (fun K125 hK126 => ?_)
                refine wp_region_lit ?_
                refine seqS6 (a' := ⟨#[.agg #[.int .i64 vw1.Hi, .int .u64 vw1.Lo], .int .i64 d2, .pointer (some ⟨b5, 0, none⟩), undef, .int .i64 (w64 ((w64 (u64 (0 - vt59))) - 1)), .int .i64 0, .pointer (some ⟨b19, 0, none⟩), .int .u64 vt59, .int .u64 vt60, .int .u64 most94, .int .i64 d2, .bool false, .agg #[.int .i64 vw1.Hi, .int .u64 vw1.Lo], .pointer (some ⟨b5, 0, none⟩), .int .i64 vw1.Hi, (j43 0), (j43 1), (j43 2), .pointer (some ⟨b19, 0, none⟩), .int .i64 x44, .int .u64 (u64 (x44)), .int .i64 d2, .int .u64 (u64 (d2)), .bool false, .tuple #[.int .u64 vt59, .int .u64 vt60], .pointer (some ⟨b19, 0, none⟩), .int .i64 x44, .int .u64 (u64 (x44)), .pointer (some ⟨b19, 1, none⟩), .int .u64 x45, .int .i64 d2, .int .u64 (u64 (d2)), .tuple #[.int .u64 vt59, .int .u64 vt60], .int .u64 vt59, .int .u64 vt60, .pointer (some ⟨b5, 0, none⟩), .int .i64 vw1.Hi, (j93 0), (j93 1), (j93 2), (j93 3), (j93 4), .int .u64 vt59, .int .u64 most94, .bool false, .bool false, .pointer (some ⟨b5, 0, none⟩), .int .i64 vw1.Hi, .bool false, undef, undef, .bool true, .int .u64 vt60, .bool true, .int .u64 vt59, .int .u64 (u64 (0 - vt59)), .int .i64 (w64 (u64 (0 - vt59))), .int .i64 (w64 ((w64 (u64 (0 - vt59))) - 1)), undef, undef, undef], []⟩) (by kernel_rfl) ?_
                refine wpList_nil ?_
                refine hK126 _ _ ?_
                refine wp_ret ?_
                refine hr111 _ _ ?_
                refine hret _ _ ?_
                refine ends_still (v := Value.tuple #[.int .i64 (w64 ((w64 (u64 (0 - vt59))) - 1)), .int .i64 0]) (by kernel_rfl) (by kernel_rfl) ?_
                have HS136 := HS92.drop
                have HS137 := HS136.drop
                injection h with h
                injection h with h0_ h
                subst h0_ h
                exact ⟨f89, rfl, (L40.trans (L63.trans L90)), HS137⟩
              · have c124 : ¬ (vt60 > 0) := c124
                refine wpRwI 51 (x := (decide (vt60 > 0))) (v := false) (by kernel_rfl) (decide_eq_false c124) ?_
                refine wpRwI 53 (x := (decide (vt60 > 0))) (v := false) (by kernel_rfl) (decide_eq_false c124) ?_
                refine condF (by kernel_rfl) ?_
                refine wp_skip ?_
                refine hn110 _ _ ?_
                refine hK107 _ _ ?_
                refine wp_seq_k (fun K127 hK128 => ?_)
                refine wp_region_lit ?_
                refine seqS5 (a' := ⟨#[.agg #[.int .i64 vw1.Hi, .int .u64 vw1.Lo], .int .i64 d2, .pointer (some ⟨b5, 0, none⟩), undef, .int .i64 (w64 (u64 (0 - vt59))), .int .i64 0, .pointer (some ⟨b19, 0, none⟩), .int .u64 vt59, .int .u64 vt60, .int .u64 most94, .int .i64 d2, .bool false, .agg #[.int .i64 vw1.Hi, .int .u64 vw1.Lo], .pointer (some ⟨b5, 0, none⟩), .int .i64 vw1.Hi, (j43 0), (j43 1), (j43 2), .pointer (some ⟨b19, 0, none⟩), .int .i64 x44, .int .u64 (u64 (x44)), .int .i64 d2, .int .u64 (u64 (d2)), .bool false, .tuple #[.int .u64 vt59, .int .u64 vt60], .pointer (some ⟨b19, 0, none⟩), .int .i64 x44, .int .u64 (u64 (x44)), .pointer (some ⟨b19, 1, none⟩), .int .u64 x45, .int .i64 d2, .int .u64 (u64 (d2)), .tuple #[.int .u64 vt59, .int .u64 vt60], .int .u64 vt59, .int .u64 vt60, .pointer (some ⟨b5, 0, none⟩), .int .i64 vw1.Hi, (j93 0), (j93 1), (j93 2), (j93 3), (j93 4), .int .u64 vt59, .int .u64 most94, .bool false, .bool false, .pointer (some ⟨b5, 0, none⟩), .int .i64 vw1.Hi, .bool false, undef, undef, .bool false, .int .u64 vt60, .bool false, undef, undef, undef, undef, .int .u64 vt59, .int .u64 (u64 (0 - vt59)), .int .i64 (w64 (u64 (0 - vt59)))], []⟩) (by kernel_rfl) ?_
                refine wpList_nil ?_
                refine hK128 _ _ ?_
                refine wp_ret ?_
                refine hret _ _ ?_
                refine ends_still (v := Value.tuple #[.int .i64 (w64 (u64 (0 - vt59))), .int .i64 0]) (by kernel_rfl) (by kernel_rfl) ?_
                have HS138 := HS92.drop
                have HS139 := HS138.drop
                injection h with h
                injection h with h0_ h
                subst h0_ h
                exact ⟨f89, rfl, (L40.trans (L63.trans L90)), HS139⟩
        clear h; have h := hv95; clear hv95
        have hq_ := ite_some h; clear h; rcases hq_ with ⟨c73, h⟩ | ⟨c73, h⟩
        · have c73 : vw1.Hi < 0 := c73
          refine wpRwI 37 (x := (decide (vw1.Hi < 0))) (v := true) (by kernel_rfl) (decide_eq_true c73) ?_
          refine condT (by kernel_rfl) ?_
          refine wp_seq_k (fun K74 hK75 => ?_)
          refine wp_region_lit ?_
          refine seqS1 (a' := ⟨#[.agg #[.int .i64 vw1.Hi, .int .u64 vw1.Lo], .int .i64 d2, .pointer (some ⟨b5, 0, none⟩), undef, .int .i64 0, .int .i64 0, .pointer (some ⟨b19, 0, none⟩), .int .u64 vt59, .int .u64 vt60, .int .u64 9223372036854775808, .int .i64 d2, .bool false, .agg #[.int .i64 vw1.Hi, .int .u64 vw1.Lo], .pointer (some ⟨b5, 0, none⟩), .int .i64 vw1.Hi, (j43 0), (j43 1), (j43 2), .pointer (some ⟨b19, 0, none⟩), .int .i64 x44, .int .u64 (u64 (x44)), .int .i64 d2, .int .u64 (u64 (d2)), .bool false, .tuple #[.int .u64 vt59, .int .u64 vt60], .pointer (some ⟨b19, 0, none⟩), .int .i64 x44, .int .u64 (u64 (x44)), .pointer (some ⟨b19, 1, none⟩), .int .u64 x45, .int .i64 d2, .int .u64 (u64 (d2)), .tuple #[.int .u64 vt59, .int .u64 vt60], .int .u64 vt59, .int .u64 vt60, .pointer (some ⟨b5, 0, none⟩), .int .i64 vw1.Hi, .bool true, undef, undef, undef, undef, undef, undef, undef, undef, undef, undef, undef, undef, undef, undef, undef, undef, undef, undef, undef, undef, undef, undef, undef], []⟩) (by kernel_rfl) ?_
          refine wpList_nil ?_
          refine hK75 _ _ ?_
          refine wp_seq_k (fun K76 hK77 => ?_)
          refine wp_region_lit ?_
          refine seqS2 (a' := ⟨#[.agg #[.int .i64 vw1.Hi, .int .u64 vw1.Lo], .int .i64 d2, .pointer (some ⟨b5, 0, none⟩), undef, .int .i64 0, .int .i64 0, .pointer (some ⟨b19, 0, none⟩), .int .u64 vt59, .int .u64 vt60, .int .u64 9223372036854775808, .int .i64 d2, .bool false, .agg #[.int .i64 vw1.Hi, .int .u64 vw1.Lo], .pointer (some ⟨b5, 0, none⟩), .int .i64 vw1.Hi, (j43 0), (j43 1), (j43 2), .pointer (some ⟨b19, 0, none⟩), .int .i64 x44, .int .u64 (u64 (x44)), .int .i64 d2, .int .u64 (u64 (d2)), .bool false, .tuple #[.int .u64 vt59, .int .u64 vt60], .pointer (some ⟨b19, 0, none⟩), .int .i64 x44, .int .u64 (u64 (x44)), .pointer (some ⟨b19, 1, none⟩), .int .u64 x45, .int .i64 d2, .int .u64 (u64 (d2)), .tuple #[.int .u64 vt59, .int .u64 vt60], .int .u64 vt59, .int .u64 vt60, .pointer (some ⟨b5, 0, none⟩), .int .i64 vw1.Hi, .bool true, .int .u64 vt60, .bool (decide (vt60 > 0)), undef, undef, undef, undef, undef, undef, undef, undef, undef, undef, undef, undef, undef, undef, undef, undef, undef, undef, undef, undef, undef], []⟩) (by kernel_rfl) ?_
          refine wpList_nil ?_
          refine hK77 _ _ ?_
          have hq_ := bind_some h; clear h; obtain ⟨v78, hv86, h⟩ := hq_
          have J87 : ∀ (f80 : FM) (most85 : Int) (j84 : Nat → Value) (W82 : World) (a_ : Act), FM.le f62 f80 → some (most85) = some v78 → St t W82 f80 ([(b19, .cells #[.int .i64 x44, .int .u64 x45] 94 (0, 0))] :: [(b5, .cells #[.int .i64 vw1.Hi, .int .u64 vw1.Lo] 94 (0, 0))] :: H) → a_ = ⟨#[.agg #[.int .i64 vw1.Hi, .int .u64 vw1.Lo], .int .i64 d2, .pointer (some ⟨b5, 0, none⟩), undef, .int .i64 0, .int .i64 0, .pointer (some ⟨b19, 0, none⟩), .int .u64 vt59, .int .u64 vt60, .int .u64 most85, .int .i64 d2, .bool false, .agg #[.int .i64 vw1.Hi, .int .u64 vw1.Lo], .pointer (some ⟨b5, 0, none⟩), .int .i64 vw1.Hi, (j43 0), (j43 1), (j43 2), .pointer (some ⟨b19, 0, none⟩), .int .i64 x44, .int .u64 (u64 (x44)), .int .i64 d2, .int .u64 (u64 (d2)), .bool false, .tuple #[.int .u64 vt59, .int .u64 vt60], .pointer (some ⟨b19, 0, none⟩), .int .i64 x44, .int .u64 (u64 (x44)), .pointer (some ⟨b19, 1, none⟩), .int .u64 x45, .int .i64 d2, .int .u64 (u64 (d2)), .tuple #[.int .u64 vt59, .int .u64 vt60], .int .u64 vt59, .int .u64 vt60, .pointer (some ⟨b5, 0, none⟩), .int .i64 vw1.Hi, .bool true, .int .u64 vt60, (j84 0), (j84 1), (j84 2), undef, undef, undef, undef, undef, undef, undef, undef, undef, undef, undef, undef, undef, undef, undef, undef, undef, undef, undef], []⟩ → K68 a_ W82 := by
            intro f80 most85 j84 W82 a_ L81 hj88 HS83  hfr_; subst hfr_
            injection hj88 with hj88; subst hj88; try dsimp only at h
            exact J96 f80 most85 (fun i_ => [Value.bool true, Value.int .u64 vt60, (j84 0), (j84 1), (j84 2)].getD i_ undef) W82 _ L81 h HS83 (by kernel_rfl)
          clear h; have h := hv86; clear hv86
          have hq_ := ite_some h; clear h; rcases hq_ with ⟨c79, h⟩ | ⟨c79, h⟩
          · have c79 : vt60 > 0 := c79
            refine wpRwI 39 (x := (decide (vt60 > 0))) (v := true) (by kernel_rfl) (decide_eq_true c79) ?_
            refine condT (by kernel_rfl) ?_
            refine wp_region_lit ?_
            refine seqS3 (a' := ⟨#[.agg #[.int .i64 vw1.Hi, .int .u64 vw1.Lo], .int .i64 d2, .pointer (some ⟨b5, 0, none⟩), undef, .int .i64 0, .int .i64 0, .pointer (some ⟨b19, 0, none⟩), .int .u64 vt59, .int .u64 vt60, .int .u64 (u64 (9223372036854775808 - 1)), .int .i64 d2, .bool false, .agg #[.int .i64 vw1.Hi, .int .u64 vw1.Lo], .pointer (some ⟨b5, 0, none⟩), .int .i64 vw1.Hi, (j43 0), (j43 1), (j43 2), .pointer (some ⟨b19, 0, none⟩), .int .i64 x44, .int .u64 (u64 (x44)), .int .i64 d2, .int .u64 (u64 (d2)), .bool false, .tuple #[.int .u64 vt59, .int .u64 vt60], .pointer (some ⟨b19, 0, none⟩), .int .i64 x44, .int .u64 (u64 (x44)), .pointer (some ⟨b19, 1, none⟩), .int .u64 x45, .int .i64 d2, .int .u64 (u64 (d2)), .tuple #[.int .u64 vt59, .int .u64 vt60], .int .u64 vt59, .int .u64 vt60, .pointer (some ⟨b5, 0, none⟩), .int .i64 vw1.Hi, .bool true, .int .u64 vt60, .bool true, .int .u64 9223372036854775808, .int .u64 (u64 (9223372036854775808 - 1)), undef, undef, undef, undef, undef, undef, undef, undef, undef, undef, undef, undef, undef, undef, undef, undef, undef, undef, undef], []⟩) (by kernel_rfl) ?_
            refine wpList_nil ?_
            exact J87 f62 (u64 (9223372036854775808 - 1)) (fun i_ => [Value.bool true, Value.int .u64 9223372036854775808, Value.int .u64 (u64 (9223372036854775808 - 1))].getD i_ undef) W64 _ (FM.le.refl _) h HS65 (by kernel_rfl)
          · have c79 : ¬ (vt60 > 0) := c79
            refine wpRwI 39 (x := (decide (vt60 > 0))) (v := false) (by kernel_rfl) (decide_eq_false c79) ?_
            refine condF (by kernel_rfl) ?_
            refine wp_skip ?_
            exact J87 f62 9223372036854775808 (fun i_ => [Value.bool false, undef, undef].getD i_ undef) W64 _ (FM.le.refl _) h HS65 (by kernel_rfl)
        · have c73 : ¬ (vw1.Hi < 0) := c73
          refine wpRwI 37 (x := (decide (vw1.Hi < 0))) (v := false) (by kernel_rfl) (decide_eq_false c73) ?_
          refine condF (by kernel_rfl) ?_
          refine wp_skip ?_
          exact J96 f62 9223372036854775807 (fun i_ => [Value.bool false, undef, undef, undef, undef].getD i_ undef) W64 _ (FM.le.refl _) h HS65 (by kernel_rfl)
    clear h; have h := hv46; clear hv46
    have hq_ := ite_some h; clear h; rcases hq_ with ⟨c30, h⟩ | ⟨c30, h⟩
    · have c30 : vw1.Hi < 0 := c30
      refine wpRwI 15 (x := (decide (vw1.Hi < 0))) (v := true) (by kernel_rfl) (decide_eq_true c30) ?_
      refine condT (by kernel_rfl) ?_
      refine wp_region_lit ?_
      refine seqK rfl (does_run (run_loadN (n := 2) rfl Try.underlying94 rfl (by kernel_rfl) (by kernel_rfl : _ = Value.pointer (some ⟨b5, 0, none⟩)) (cs := [.int .i64 vw1.Hi, .int .u64 vw1.Lo]) rfl (HS24.u1.cells 0 2 _ rfl)) ?_)
      have hq_ := bind_some h; clear h; obtain ⟨vt31, hc32, h⟩ := hq_
      refine seqK rfl (does_call (f := 82) (args := #[.agg #[.int .i64 vw1.Hi, .int .u64 vw1.Lo]]) (by kernel_rfl) (num_Wide_Neg.calls k vw1 HS24 vt31 hc32) ?_)
      rintro _ W35 ⟨f33, rfl, L34, HS36⟩
      refine ⟨_, rfl, ?_⟩
      refine seqK rfl (does_store (n := 2) (vs := [.int .i64 vt31.Hi, .int .u64 vt31.Lo]) (cs' := #[.int .i64 vt31.Hi, .int .u64 vt31.Lo]) rfl (by kernel_rfl) (by kernel_rfl : _ = Value.pointer (some ⟨b19, 0, none⟩)) (by kernel_rfl : _ = Value.agg #[.int .i64 vt31.Hi, .int .u64 vt31.Lo]) rfl rfl (by intro u_ hu_; simp only [List.mem_cons, List.not_mem_nil, or_false] at hu_; rcases hu_ with rfl | rfl <;> rfl) HS36 (Nat.le_of_ble_eq_true rfl) (by kernel_rfl) ?_)
      intro W37 HS38
      refine wpList_nil ?_
      exact J47 f33 vt31.Hi vt31.Lo (fun i_ => [Value.bool true, Value.agg #[.int .i64 vw1.Hi, .int .u64 vw1.Lo], Value.agg #[.int .i64 vt31.Hi, .int .u64 vt31.Lo]].getD i_ undef) W37 _ L34 h HS38 (by kernel_rfl)
    · have c30 : ¬ (vw1.Hi < 0) := c30
      refine wpRwI 15 (x := (decide (vw1.Hi < 0))) (v := false) (by kernel_rfl) (decide_eq_false c30) ?_
      refine condF (by kernel_rfl) ?_
      refine wp_skip ?_
      exact J47 f vw1.Hi vw1.Lo (fun i_ => [Value.bool false, undef, undef].getD i_ undef) W23 _ (FM.le.refl _) h HS24 (by kernel_rfl)

set_option maxRecDepth 100000 in
set_option maxHeartbeats 4000000 in
theorem num_MulDiv.calls (k : Nat)  (a1 : Int) (b2 : Int) (c3 : Int) {t w : World} {f : FM} {H : List Seg} (HS : St t w f (H)) (r1 : Int) (r2 : Int) (h : num_MulDiv k a1 b2 c3 = some (r1, r2)) :
    Calls Try.prog 54 #[.int .i64 a1, .int .i64 b2, .int .i64 c3] w (fun e w' => ∃ (g : FM), e = .returned (Value.tuple #[.int .i64 r1, .int .i64 r2]) ∧ FM.le f g ∧ St t w' g (H)) := by
  unfold num_MulDiv at h
  refine enter Try.func54 rfl (tm := #[.int .i64 a1, .int .i64 b2, .int .i64 c3, undef, undef, undef, undef, undef, undef, undef, undef, undef, undef, undef, undef]) (by kernel_rfl) ?_
  intro B hret hnor hnp
  refine wp_seq_k (fun K4 hK5 => ?_)
  refine wp_region_lit ?_
  refine seqS2 (a' := ⟨#[.int .i64 a1, .int .i64 b2, .int .i64 c3, undef, undef, undef, .int .i64 0, .int .i64 0, undef, undef, undef, undef, undef, undef, undef], []⟩) (by kernel_rfl) ?_
  refine wpList_nil ?_
  refine hK5 _ _ ?_
  refine wp_seq_k (fun K6 hK7 => ?_)
  refine wp_region_lit ?_
  have hq_ := bind_some h; clear h; obtain ⟨vt8, hc9, h⟩ := hq_
  refine seqL2 (by kernel_rfl) ?_
  refine seqK rfl (does_call (f := 64) (args := #[.int .i64 a1, .int .i64 b2]) (by kernel_rfl) (num_Product.calls k a1 b2 HS vt8 hc9) ?_)
  rintro _ W12 ⟨f10, rfl, L11, HS13⟩
  refine ⟨_, rfl, ?_⟩
  have hq_ := bind_some h; clear h; obtain ⟨⟨vt14, vt15⟩, hc16, h⟩ := hq_
  refine seqL1 (by kernel_rfl) ?_
  refine seqK rfl (does_call (f := 65) (args := #[.agg #[.int .i64 vt8.Hi, .int .u64 vt8.Lo], .int .i64 c3]) (by kernel_rfl) (num_Wide_Div.calls k vt8 c3 HS13 vt14 vt15 hc16) ?_)
  rintro _ W19 ⟨f17, rfl, L18, HS20⟩
  refine ⟨_, rfl, ?_⟩
  refine seqS4 (a' := ⟨#[.int .i64 a1, .int .i64 b2, .int .i64 c3, undef, undef, undef, .int .i64 vt14, .int .i64 vt15, .int .i64 a1, .int .i64 b2, .agg #[.int .i64 vt8.Hi, .int .u64 vt8.Lo], .int .i64 c3, .tuple #[.int .i64 vt14, .int .i64 vt15], .int .i64 vt14, .int .i64 vt15], []⟩) (by kernel_rfl) ?_
  refine wpList_nil ?_
  refine hK7 _ _ ?_
  refine wp_ret ?_
  refine hret _ _ ?_
  refine ends_still (v := Value.tuple #[.int .i64 vt14, .int .i64 vt15]) (by kernel_rfl) (by kernel_rfl) ?_
  injection h with h
  injection h with h0_ h
  subst h0_ h
  exact ⟨f17, rfl, (L11.trans L18), HS20⟩

set_option maxRecDepth 100000 in
set_option maxHeartbeats 4000000 in
theorem sensor_Expect.calls (k : Nat) (A2 : Option Addr) (c3 : Nat) (A5 : Option Addr) (c6 : Nat) (A8 : Option Addr) (c9 : Nat) (A12 : Option Addr) (c13 : Nat) (s1 : S_Sensor) (light11 : List Int) (beats15 : Int) {t w : World} {f : FM} {H : List Seg} (HS : St t w f (H)) (HR4 : SlR (tInt .i64) f A2 c3 s1.Bias) (HR7 : SlR (tInt .i64) f A5 c6 s1.Dark) (HR10 : SlR (tInt .i64) f A8 c9 s1.Flat) (HR14 : SlR (tInt .i64) f A12 c13 light11) (r1 : List Int) (r2 : Int) (h : sensor_Expect k s1 light11 beats15 = some (r1, r2)) :
    Calls Try.prog 26 #[.agg #[.int .i64 s1.W, .int .i64 s1.H, .slice A2 s1.Bias.length c3, .slice A5 s1.Dark.length c6, .slice A8 s1.Flat.length c9, .int .i64 s1.Full, .int .i64 s1.Gain, .int .i64 s1.Noise], .slice A12 light11.length c13, .int .i64 beats15] w (fun e w' => ∃ (g : FM) (A238 : Option Addr) (c239 : Nat) (s240 : Seg), e = .returned (Value.tuple #[.slice A238 r1.length c239, .int .i64 r2]) ∧ FM.le f g ∧ St t w' g (s240 :: H) ∧ Own (tInt .i64) 25 g A238 c239 s240 r1) := by
  unfold sensor_Expect at h
  refine enter Try.func26 rfl (tm := #[.agg #[.int .i64 s1.W, .int .i64 s1.H, .slice A2 s1.Bias.length c3, .slice A5 s1.Dark.length c6, .slice A8 s1.Flat.length c9, .int .i64 s1.Full, .int .i64 s1.Gain, .int .i64 s1.Noise], .slice A12 light11.length c13, .int .i64 beats15, undef, undef, undef, undef, undef, undef, undef, undef, undef, undef, undef, undef, undef, undef, undef, undef, undef, undef, undef, undef, undef, undef, undef, undef, undef, undef, undef, undef, undef, undef, undef, undef, undef, undef, undef, undef, undef, undef, undef, undef, undef, undef, undef, undef, undef, undef, undef, undef, undef, undef, undef, undef, undef, undef, undef, undef, undef, undef, undef, undef, undef, undef]) (by kernel_rfl) ?_
  intro B hret hnor hnp
  refine wp_seq_k (fun K16 hK17 => ?_)
  refine wp_region_lit ?_
  refine seqK rfl (does_box (cs := #[.int .i64 s1.W, .int .i64 s1.H, .slice A2 s1.Bias.length c3, .slice A5 s1.Dark.length c6, .slice A8 s1.Flat.length c9, .int .i64 s1.Full, .int .i64 s1.Gain, .int .i64 s1.Noise]) rfl (by kernel_rfl : _ = Value.agg #[.int .i64 s1.W, .int .i64 s1.H, .slice A2 s1.Bias.length c3, .slice A5 s1.Dark.length c6, .slice A8 s1.Flat.length c9, .int .i64 s1.Full, .int .i64 s1.Gain, .int .i64 s1.Noise]) rfl HS ?_)
  intro b18 W19 HS20
  refine seqS2 (a' := ⟨#[.agg #[.int .i64 s1.W, .int .i64 s1.H, .slice A2 s1.Bias.length c3, .slice A5 s1.Dark.length c6, .slice A8 s1.Flat.length c9, .int .i64 s1.Full, .int .i64 s1.Gain, .int .i64 s1.Noise], .slice A12 light11.length c13, .int .i64 beats15, .pointer (some ⟨b18, 0, none⟩), undef, undef, .slice none 0 0, .int .i64 0, undef, undef, undef, undef, undef, undef, undef, undef, undef, undef, undef, undef, undef, undef, undef, undef, undef, undef, undef, undef, undef, undef, undef, undef, undef, undef, undef, undef, undef, undef, undef, undef, undef, undef, undef, undef, undef, undef, undef, undef, undef, undef, undef, undef, undef, undef, undef, undef, undef, undef, undef, undef, undef, undef, undef, undef, undef], []⟩) (by kernel_rfl) ?_
  refine wpList_nil ?_
  refine hK17 _ _ ?_
  refine wp_seq_k (fun K22 hK23 => ?_)
  refine wp_seq_k (fun K24 hK25 => ?_)
  refine wp_region_lit ?_
  refine seqK rfl (does_run (run_loadN (n := 8) rfl Try.underlying46 rfl (by kernel_rfl) (by kernel_rfl : _ = Value.pointer (some ⟨b18, 0, none⟩)) (cs := [.int .i64 s1.W, .int .i64 s1.H, .slice A2 s1.Bias.length c3, .slice A5 s1.Dark.length c6, .slice A8 s1.Flat.length c9, .int .i64 s1.Full, .int .i64 s1.Gain, .int .i64 s1.Noise]) rfl (HS20.cells 0 8 _ rfl)) ?_)
  have hq_ := bind_some h; clear h; obtain ⟨vt26, hc27, h⟩ := hq_
  refine seqL2 (by kernel_rfl) ?_
  refine seqK rfl (does_call (f := 44) (args := #[.agg #[.int .i64 s1.W, .int .i64 s1.H, .slice A2 s1.Bias.length c3, .slice A5 s1.Dark.length c6, .slice A8 s1.Flat.length c9, .int .i64 s1.Full, .int .i64 s1.Gain, .int .i64 s1.Noise], .int .i64 (light11.length : Int)]) (by kernel_rfl) (sensor_sized.calls k A2 c3 A5 c6 A8 c9 s1 (light11.length : Int) HS20 HR4 HR7 HR10 vt26 hc27) ?_)
  rintro _ W30 ⟨f28, rfl, L29, HS31⟩
  refine ⟨_, rfl, ?_⟩
  refine seqS1 (a' := ⟨#[.agg #[.int .i64 s1.W, .int .i64 s1.H, .slice A2 s1.Bias.length c3, .slice A5 s1.Dark.length c6, .slice A8 s1.Flat.length c9, .int .i64 s1.Full, .int .i64 s1.Gain, .int .i64 s1.Noise], .slice A12 light11.length c13, .int .i64 beats15, .pointer (some ⟨b18, 0, none⟩), undef, undef, .slice none 0 0, .int .i64 0, .int .i64 vt26, undef, undef, undef, undef, undef, .agg #[.int .i64 s1.W, .int .i64 s1.H, .slice A2 s1.Bias.length c3, .slice A5 s1.Dark.length c6, .slice A8 s1.Flat.length c9, .int .i64 s1.Full, .int .i64 s1.Gain, .int .i64 s1.Noise], .slice A12 light11.length c13, .int .i64 (light11.length : Int), .int .i64 vt26, undef, undef, undef, undef, undef, undef, undef, undef, undef, undef, undef, undef, undef, undef, undef, undef, undef, undef, undef, undef, undef, undef, undef, undef, undef, undef, undef, undef, undef, undef, undef, undef, undef, undef, undef, undef, undef, undef, undef, undef, undef, undef, undef, undef, undef, undef, undef], []⟩) (by kernel_rfl) ?_
  refine wpList_nil ?_
  refine hK25 _ _ ?_
  refine wp_seq_k (fun K32 hK33 => ?_)
  refine wp_region_lit ?_
  refine seqS2 (a' := ⟨#[.agg #[.int .i64 s1.W, .int .i64 s1.H, .slice A2 s1.Bias.length c3, .slice A5 s1.Dark.length c6, .slice A8 s1.Flat.length c9, .int .i64 s1.Full, .int .i64 s1.Gain, .int .i64 s1.Noise], .slice A12 light11.length c13, .int .i64 beats15, .pointer (some ⟨b18, 0, none⟩), undef, undef, .slice none 0 0, .int .i64 0, .int .i64 vt26, undef, undef, undef, undef, undef, .agg #[.int .i64 s1.W, .int .i64 s1.H, .slice A2 s1.Bias.length c3, .slice A5 s1.Dark.length c6, .slice A8 s1.Flat.length c9, .int .i64 s1.Full, .int .i64 s1.Gain, .int .i64 s1.Noise], .slice A12 light11.length c13, .int .i64 (light11.length : Int), .int .i64 vt26, .int .i64 vt26, .bool (vt26 != 0), undef, undef, undef, undef, undef, undef, undef, undef, undef, undef, undef, undef, undef, undef, undef, undef, undef, undef, undef, undef, undef, undef, undef, undef, undef, undef, undef, undef, undef, undef, undef, undef, undef, undef, undef, undef, undef, undef, undef, undef, undef, undef, undef, undef, undef], []⟩) (by kernel_rfl) ?_
  refine wpList_nil ?_
  refine hK33 _ _ ?_
  have hq_ := ite_some h; clear h; rcases hq_ with ⟨c35, h⟩ | ⟨c35, h⟩
  · have c35 : vt26 ≠ 0 := c35
    refine wpRwI 19 (x := (vt26 != 0)) (v := true) (by kernel_rfl) (bne_iff_ne.mpr c35) ?_
    refine condT (by kernel_rfl) ?_
    refine wp_seq_k (fun K36 hK37 => ?_)
    refine wp_region_lit ?_
    refine seqS3 (a' := ⟨#[.agg #[.int .i64 s1.W, .int .i64 s1.H, .slice A2 s1.Bias.length c3, .slice A5 s1.Dark.length c6, .slice A8 s1.Flat.length c9, .int .i64 s1.Full, .int .i64 s1.Gain, .int .i64 s1.Noise], .slice A12 light11.length c13, .int .i64 beats15, .pointer (some ⟨b18, 0, none⟩), undef, undef, .slice none 0 0, .int .i64 vt26, .int .i64 vt26, undef, undef, undef, undef, undef, .agg #[.int .i64 s1.W, .int .i64 s1.H, .slice A2 s1.Bias.length c3, .slice A5 s1.Dark.length c6, .slice A8 s1.Flat.length c9, .int .i64 s1.Full, .int .i64 s1.Gain, .int .i64 s1.Noise], .slice A12 light11.length c13, .int .i64 (light11.length : Int), .int .i64 vt26, .int .i64 vt26, .bool true, .int .i64 vt26, undef, undef, undef, undef, undef, undef, undef, undef, undef, undef, undef, undef, undef, undef, undef, undef, undef, undef, undef, undef, undef, undef, undef, undef, undef, undef, undef, undef, undef, undef, undef, undef, undef, undef, undef, undef, undef, undef, undef, undef, undef, undef, undef, undef], []⟩) (by kernel_rfl) ?_
    refine wpList_nil ?_
    refine hK37 _ _ ?_
    refine wp_ret ?_
    refine hret _ _ ?_
    have HS220 := HS31.cons_nil
    refine ends_still (v := Value.tuple #[.slice none 0 0, .int .i64 vt26]) (by kernel_rfl) (by kernel_rfl) ?_
    have HS222 := HS220.u1
    have HS223 := HS222.drop
    injection h with h
    injection h with h0_ h
    subst h0_ h
    exact ⟨f28, none, 0, [], rfl, L29, HS223, (Own.nil _)⟩
  · have c35 : ¬ (vt26 ≠ 0) := c35
    refine wpRwI 19 (x := (vt26 != 0)) (v := false) (by kernel_rfl) (bne_eq_false_iff_eq.mpr (Decidable.of_not_not c35)) ?_
    refine condF (by kernel_rfl) ?_
    refine wp_skip ?_
    refine hK23 _ _ ?_
    refine wp_seq_k (fun K38 hK39 => ?_)
    refine wp_seq_k (fun K40 hK41 => ?_)
    refine wp_region_lit ?_
    refine seqS3 (a' := ⟨#[.agg #[.int .i64 s1.W, .int .i64 s1.H, .slice A2 s1.Bias.length c3, .slice A5 s1.Dark.length c6, .slice A8 s1.Flat.length c9, .int .i64 s1.Full, .int .i64 s1.Gain, .int .i64 s1.Noise], .slice A12 light11.length c13, .int .i64 beats15, .pointer (some ⟨b18, 0, none⟩), undef, undef, .slice none 0 0, .int .i64 0, .int .i64 vt26, undef, undef, undef, undef, undef, .agg #[.int .i64 s1.W, .int .i64 s1.H, .slice A2 s1.Bias.length c3, .slice A5 s1.Dark.length c6, .slice A8 s1.Flat.length c9, .int .i64 s1.Full, .int .i64 s1.Gain, .int .i64 s1.Noise], .slice A12 light11.length c13, .int .i64 (light11.length : Int), .int .i64 vt26, .int .i64 vt26, .bool false, undef, .int .i64 beats15, .bool (decide (beats15 < 0)), .bool (decide (beats15 < 0)), undef, undef, undef, undef, undef, undef, undef, undef, undef, undef, undef, undef, undef, undef, undef, undef, undef, undef, undef, undef, undef, undef, undef, undef, undef, undef, undef, undef, undef, undef, undef, undef, undef, undef, undef, undef, undef, undef, undef, undef, undef], []⟩) (by kernel_rfl) ?_
    have hq_ := ite_some h; clear h; rcases hq_ with ⟨c42, h⟩ | ⟨c42, h⟩
    · have c42 : beats15 < 0 := c42
      refine seqRwI 22 (x := (decide (beats15 < 0))) (v := true) (by kernel_rfl) (decide_eq_true c42) ?_
      refine seqRwI 23 (x := (decide (beats15 < 0))) (v := true) (by kernel_rfl) (decide_eq_true c42) ?_
      refine seqS7 (a' := ⟨#[.agg #[.int .i64 s1.W, .int .i64 s1.H, .slice A2 s1.Bias.length c3, .slice A5 s1.Dark.length c6, .slice A8 s1.Flat.length c9, .int .i64 s1.Full, .int .i64 s1.Gain, .int .i64 s1.Noise], .slice A12 light11.length c13, .int .i64 beats15, .pointer (some ⟨b18, 0, none⟩), undef, undef, .slice none 0 0, .int .i64 0, .int .i64 vt26, undef, undef, undef, undef, undef, .agg #[.int .i64 s1.W, .int .i64 s1.H, .slice A2 s1.Bias.length c3, .slice A5 s1.Dark.length c6, .slice A8 s1.Flat.length c9, .int .i64 s1.Full, .int .i64 s1.Gain, .int .i64 s1.Noise], .slice A12 light11.length c13, .int .i64 (light11.length : Int), .int .i64 vt26, .int .i64 vt26, .bool false, undef, .int .i64 beats15, .bool true, .bool true, undef, undef, .bool true, .bool true, undef, undef, .bool true, undef, undef, undef, undef, undef, undef, undef, undef, undef, undef, undef, undef, undef, undef, undef, undef, undef, undef, undef, undef, undef, undef, undef, undef, undef, undef, undef, undef, undef, undef, undef, undef, undef, undef], []⟩) (by kernel_rfl) ?_
      refine wpList_nil ?_
      refine hK41 _ _ ?_
      refine condT (by kernel_rfl) ?_
      refine wp_seq_k (fun K43 hK44 => ?_)
      refine wp_region_lit ?_
      refine seqS2 (a' := ⟨#[.agg #[.int .i64 s1.W, .int .i64 s1.H, .slice A2 s1.Bias.length c3, .slice A5 s1.Dark.length c6, .slice A8 s1.Flat.length c9, .int .i64 s1.Full, .int .i64 s1.Gain, .int .i64 s1.Noise], .slice A12 light11.length c13, .int .i64 beats15, .pointer (some ⟨b18, 0, none⟩), undef, undef, .slice none 0 0, .int .i64 4, .int .i64 vt26, undef, undef, undef, undef, undef, .agg #[.int .i64 s1.W, .int .i64 s1.H, .slice A2 s1.Bias.length c3, .slice A5 s1.Dark.length c6, .slice A8 s1.Flat.length c9, .int .i64 s1.Full, .int .i64 s1.Gain, .int .i64 s1.Noise], .slice A12 light11.length c13, .int .i64 (light11.length : Int), .int .i64 vt26, .int .i64 vt26, .bool false, undef, .int .i64 beats15, .bool true, .bool true, undef, undef, .bool true, .bool true, undef, undef, .bool true, undef, undef, undef, undef, undef, undef, undef, undef, undef, undef, undef, undef, undef, undef, undef, undef, undef, undef, undef, undef, undef, undef, undef, undef, undef, undef, undef, undef, undef, undef, undef, undef, undef, undef], []⟩) (by kernel_rfl) ?_
      refine wpList_nil ?_
      refine hK44 _ _ ?_
      refine wp_ret ?_
      refine hret _ _ ?_
      have HS224 := HS31.cons_nil
      refine ends_still (v := Value.tuple #[.slice none 0 0, .int .i64 4]) (by kernel_rfl) (by kernel_rfl) ?_
      have HS226 := HS224.u1
      have HS227 := HS226.drop
      injection h with h
      injection h with h0_ h
      subst h0_ h
      exact ⟨f28, none, 0, [], rfl, L29, HS227, (Own.nil _)⟩
    · have c42 : ¬ (beats15 < 0) := c42
      refine seqRwI 22 (x := (decide (beats15 < 0))) (v := false) (by kernel_rfl) (decide_eq_false c42) ?_
      refine seqRwI 23 (x := (decide (beats15 < 0))) (v := false) (by kernel_rfl) (decide_eq_false c42) ?_
      refine seqS4 (a' := ⟨#[.agg #[.int .i64 s1.W, .int .i64 s1.H, .slice A2 s1.Bias.length c3, .slice A5 s1.Dark.length c6, .slice A8 s1.Flat.length c9, .int .i64 s1.Full, .int .i64 s1.Gain, .int .i64 s1.Noise], .slice A12 light11.length c13, .int .i64 beats15, .pointer (some ⟨b18, 0, none⟩), undef, undef, .slice none 0 0, .int .i64 0, .int .i64 vt26, undef, undef, undef, undef, undef, .agg #[.int .i64 s1.W, .int .i64 s1.H, .slice A2 s1.Bias.length c3, .slice A5 s1.Dark.length c6, .slice A8 s1.Flat.length c9, .int .i64 s1.Full, .int .i64 s1.Gain, .int .i64 s1.Noise], .slice A12 light11.length c13, .int .i64 (light11.length : Int), .int .i64 vt26, .int .i64 vt26, .bool false, undef, .int .i64 beats15, .bool false, .bool false, .int .i64 beats15, .bool (decide (beats15 > 16)), .bool (decide (beats15 > 16)), .bool (decide (beats15 > 16)), undef, undef, undef, undef, undef, undef, undef, undef, undef, undef, undef, undef, undef, undef, undef, undef, undef, undef, undef, undef, undef, undef, undef, undef, undef, undef, undef, undef, undef, undef, undef, undef, undef, undef, undef, undef, undef], []⟩) (by kernel_rfl) ?_
      have hq_ := ite_some h; clear h; rcases hq_ with ⟨c45, h⟩ | ⟨c45, h⟩
      · have c45 : beats15 > 16 := c45
        refine seqRwI 25 (x := (decide (beats15 > 16))) (v := true) (by kernel_rfl) (decide_eq_true c45) ?_
        refine seqRwI 26 (x := (decide (beats15 > 16))) (v := true) (by kernel_rfl) (decide_eq_true c45) ?_
        refine seqRwI 27 (x := (decide (beats15 > 16))) (v := true) (by kernel_rfl) (decide_eq_true c45) ?_
        refine seqS3 (a' := ⟨#[.agg #[.int .i64 s1.W, .int .i64 s1.H, .slice A2 s1.Bias.length c3, .slice A5 s1.Dark.length c6, .slice A8 s1.Flat.length c9, .int .i64 s1.Full, .int .i64 s1.Gain, .int .i64 s1.Noise], .slice A12 light11.length c13, .int .i64 beats15, .pointer (some ⟨b18, 0, none⟩), undef, undef, .slice none 0 0, .int .i64 0, .int .i64 vt26, undef, undef, undef, undef, undef, .agg #[.int .i64 s1.W, .int .i64 s1.H, .slice A2 s1.Bias.length c3, .slice A5 s1.Dark.length c6, .slice A8 s1.Flat.length c9, .int .i64 s1.Full, .int .i64 s1.Gain, .int .i64 s1.Noise], .slice A12 light11.length c13, .int .i64 (light11.length : Int), .int .i64 vt26, .int .i64 vt26, .bool false, undef, .int .i64 beats15, .bool false, .bool false, .int .i64 beats15, .bool true, .bool true, .bool true, undef, undef, .bool true, undef, undef, undef, undef, undef, undef, undef, undef, undef, undef, undef, undef, undef, undef, undef, undef, undef, undef, undef, undef, undef, undef, undef, undef, undef, undef, undef, undef, undef, undef, undef, undef, undef, undef], []⟩) (by kernel_rfl) ?_
        refine wpList_nil ?_
        refine hK41 _ _ ?_
        refine condT (by kernel_rfl) ?_
        refine wp_seq_k (fun K46 hK47 => ?_)
        refine wp_region_lit ?_
        refine seqS2 (a' := ⟨#[.agg #[.int .i64 s1.W, .int .i64 s1.H, .slice A2 s1.Bias.length c3, .slice A5 s1.Dark.length c6, .slice A8 s1.Flat.length c9, .int .i64 s1.Full, .int .i64 s1.Gain, .int .i64 s1.Noise], .slice A12 light11.length c13, .int .i64 beats15, .pointer (some ⟨b18, 0, none⟩), undef, undef, .slice none 0 0, .int .i64 4, .int .i64 vt26, undef, undef, undef, undef, undef, .agg #[.int .i64 s1.W, .int .i64 s1.H, .slice A2 s1.Bias.length c3, .slice A5 s1.Dark.length c6, .slice A8 s1.Flat.length c9, .int .i64 s1.Full, .int .i64 s1.Gain, .int .i64 s1.Noise], .slice A12 light11.length c13, .int .i64 (light11.length : Int), .int .i64 vt26, .int .i64 vt26, .bool false, undef, .int .i64 beats15, .bool false, .bool false, .int .i64 beats15, .bool true, .bool true, .bool true, undef, undef, .bool true, undef, undef, undef, undef, undef, undef, undef, undef, undef, undef, undef, undef, undef, undef, undef, undef, undef, undef, undef, undef, undef, undef, undef, undef, undef, undef, undef, undef, undef, undef, undef, undef, undef, undef], []⟩) (by kernel_rfl) ?_
        refine wpList_nil ?_
        refine hK47 _ _ ?_
        refine wp_ret ?_
        refine hret _ _ ?_
        have HS228 := HS31.cons_nil
        refine ends_still (v := Value.tuple #[.slice none 0 0, .int .i64 4]) (by kernel_rfl) (by kernel_rfl) ?_
        have HS230 := HS228.u1
        have HS231 := HS230.drop
        injection h with h
        injection h with h0_ h
        subst h0_ h
        exact ⟨f28, none, 0, [], rfl, L29, HS231, (Own.nil _)⟩
      · have c45 : ¬ (beats15 > 16) := c45
        refine seqRwI 25 (x := (decide (beats15 > 16))) (v := false) (by kernel_rfl) (decide_eq_false c45) ?_
        refine seqRwI 26 (x := (decide (beats15 > 16))) (v := false) (by kernel_rfl) (decide_eq_false c45) ?_
        refine seqRwI 27 (x := (decide (beats15 > 16))) (v := false) (by kernel_rfl) (decide_eq_false c45) ?_
        have hq_ := bind_some h; clear h; obtain ⟨vt48, hc49, h⟩ := hq_
        refine seqL1 (by kernel_rfl) ?_
        refine seqG (by kernel_rfl) (does_call (f := 53) (args := #[.slice A12 light11.length c13, .int .i64 72057594037927936]) (by kernel_rfl) (sensor_outside_Light.calls k A12 c13 light11 72057594037927936 HS31 (HR14.mono L29) vt48 hc49) ?_)
        rintro _ W52 ⟨f50, rfl, L51, HS53⟩
        refine ⟨_, rfl, ?_⟩
        refine seqS1 (a' := ⟨#[.agg #[.int .i64 s1.W, .int .i64 s1.H, .slice A2 s1.Bias.length c3, .slice A5 s1.Dark.length c6, .slice A8 s1.Flat.length c9, .int .i64 s1.Full, .int .i64 s1.Gain, .int .i64 s1.Noise], .slice A12 light11.length c13, .int .i64 beats15, .pointer (some ⟨b18, 0, none⟩), undef, undef, .slice none 0 0, .int .i64 0, .int .i64 vt26, undef, undef, undef, undef, undef, .agg #[.int .i64 s1.W, .int .i64 s1.H, .slice A2 s1.Bias.length c3, .slice A5 s1.Dark.length c6, .slice A8 s1.Flat.length c9, .int .i64 s1.Full, .int .i64 s1.Gain, .int .i64 s1.Noise], .slice A12 light11.length c13, .int .i64 (light11.length : Int), .int .i64 vt26, .int .i64 vt26, .bool false, undef, .int .i64 beats15, .bool false, .bool false, .int .i64 beats15, .bool false, .bool false, .bool false, .slice A12 light11.length c13, .bool vt48, .bool vt48, undef, undef, undef, undef, undef, undef, undef, undef, undef, undef, undef, undef, undef, undef, undef, undef, undef, undef, undef, undef, undef, undef, undef, undef, undef, undef, undef, undef, undef, undef, undef, undef, undef, undef], []⟩) (by kernel_rfl) ?_
        refine wpList_nil ?_
        refine hK41 _ _ ?_
        have hq_ := ite_some h; clear h; rcases hq_ with ⟨c55, h⟩ | ⟨c55, h⟩
        · have c55 : vt48 = true := c55
          refine wpRwI 29 (x := vt48) (v := true) (by kernel_rfl) c55 ?_
          refine wpRwI 30 (x := vt48) (v := true) (by kernel_rfl) c55 ?_
          refine condT (by kernel_rfl) ?_
          refine wp_seq_k (fun K56 hK57 => ?_)
          refine wp_region_lit ?_
          refine seqS2 (a' := ⟨#[.agg #[.int .i64 s1.W, .int .i64 s1.H, .slice A2 s1.Bias.length c3, .slice A5 s1.Dark.length c6, .slice A8 s1.Flat.length c9, .int .i64 s1.Full, .int .i64 s1.Gain, .int .i64 s1.Noise], .slice A12 light11.length c13, .int .i64 beats15, .pointer (some ⟨b18, 0, none⟩), undef, undef, .slice none 0 0, .int .i64 4, .int .i64 vt26, undef, undef, undef, undef, undef, .agg #[.int .i64 s1.W, .int .i64 s1.H, .slice A2 s1.Bias.length c3, .slice A5 s1.Dark.length c6, .slice A8 s1.Flat.length c9, .int .i64 s1.Full, .int .i64 s1.Gain, .int .i64 s1.Noise], .slice A12 light11.length c13, .int .i64 (light11.length : Int), .int .i64 vt26, .int .i64 vt26, .bool false, undef, .int .i64 beats15, .bool false, .bool false, .int .i64 beats15, .bool false, .bool false, .bool false, .slice A12 light11.length c13, .bool true, .bool true, undef, undef, undef, undef, undef, undef, undef, undef, undef, undef, undef, undef, undef, undef, undef, undef, undef, undef, undef, undef, undef, undef, undef, undef, undef, undef, undef, undef, undef, undef, undef, undef, undef, undef], []⟩) (by kernel_rfl) ?_
          refine wpList_nil ?_
          refine hK57 _ _ ?_
          refine wp_ret ?_
          refine hret _ _ ?_
          have HS232 := HS53.cons_nil
          refine ends_still (v := Value.tuple #[.slice none 0 0, .int .i64 4]) (by kernel_rfl) (by kernel_rfl) ?_
          have HS234 := HS232.u1
          have HS235 := HS234.drop
          injection h with h
          injection h with h0_ h
          subst h0_ h
          exact ⟨f50, none, 0, [], rfl, (L29.trans L51), HS235, (Own.nil _)⟩
        · have c55 : ¬ (vt48 = true) := c55
          refine wpRwI 29 (x := vt48) (v := false) (by kernel_rfl) (Bool.eq_false_iff.mpr c55) ?_
          refine wpRwI 30 (x := vt48) (v := false) (by kernel_rfl) (Bool.eq_false_iff.mpr c55) ?_
          refine condF (by kernel_rfl) ?_
          refine wp_skip ?_
          refine hK39 _ _ ?_
          refine wp_seq_k (fun K58 hK59 => ?_)
          refine wp_region_lit ?_
          have hq_ := guard_some h; clear h; obtain ⟨c60, h⟩ := hq_
          have c60 : 0 ≤ (light11.length : Int) := c60
          have hq_ := guard_some h; clear h; obtain ⟨c61, h⟩ := hq_
          have c61 : (light11.length : Int) * 8 ≤ 140737488355328 := c61
          refine seqL2 (by kernel_rfl) ?_
          refine seqK rfl (does_make (e := (tInt .i64)) (E := 25) (u := 0) (n := (light11.length : Int)) rfl (by kernel_rfl : _ = Value.int .i64 (light11.length : Int)) (by kernel_rfl : _ = Value.int .i64 (light11.length : Int)) Try.underlying44 inf25 c60 c61 (by omega) rfl HS53 ?_)
          intro b62 W63 s64 HS65 HO66
          refine seqS1 (a' := ⟨#[.agg #[.int .i64 s1.W, .int .i64 s1.H, .slice A2 s1.Bias.length c3, .slice A5 s1.Dark.length c6, .slice A8 s1.Flat.length c9, .int .i64 s1.Full, .int .i64 s1.Gain, .int .i64 s1.Noise], .slice A12 light11.length c13, .int .i64 beats15, .pointer (some ⟨b18, 0, none⟩), undef, undef, .slice none 0 0, .int .i64 0, .int .i64 vt26, .slice (some ⟨b62, 0, none⟩) (List.replicate ((light11.length : Int)).toNat (0 : Int)).length ((light11.length : Int)).toNat, undef, undef, undef, undef, .agg #[.int .i64 s1.W, .int .i64 s1.H, .slice A2 s1.Bias.length c3, .slice A5 s1.Dark.length c6, .slice A8 s1.Flat.length c9, .int .i64 s1.Full, .int .i64 s1.Gain, .int .i64 s1.Noise], .slice A12 light11.length c13, .int .i64 (light11.length : Int), .int .i64 vt26, .int .i64 vt26, .bool false, undef, .int .i64 beats15, .bool false, .bool false, .int .i64 beats15, .bool false, .bool false, .bool false, .slice A12 light11.length c13, .bool false, .bool false, .slice A12 light11.length c13, .int .i64 (light11.length : Int), .slice (some ⟨b62, 0, none⟩) (List.replicate ((light11.length : Int)).toNat (0 : Int)).length ((light11.length : Int)).toNat, undef, undef, undef, undef, undef, undef, undef, undef, undef, undef, undef, undef, undef, undef, undef, undef, undef, undef, undef, undef, undef, undef, undef, undef, undef, undef, undef, undef, undef, undef, undef], []⟩) (by kernel_rfl) ?_
          refine wpList_nil ?_
          refine hK59 _ _ ?_
          refine wp_seq_k (fun K68 hK69 => ?_)
          refine wp_seq_k (fun K70 hK71 => ?_)
          refine wp_region_lit ?_
          refine seqS3 (a' := ⟨#[.agg #[.int .i64 s1.W, .int .i64 s1.H, .slice A2 s1.Bias.length c3, .slice A5 s1.Dark.length c6, .slice A8 s1.Flat.length c9, .int .i64 s1.Full, .int .i64 s1.Gain, .int .i64 s1.Noise], .slice A12 light11.length c13, .int .i64 beats15, .pointer (some ⟨b18, 0, none⟩), undef, undef, .slice none 0 0, .int .i64 0, .int .i64 vt26, .slice (some ⟨b62, 0, none⟩) (List.replicate ((light11.length : Int)).toNat (0 : Int)).length ((light11.length : Int)).toNat, undef, undef, undef, undef, .agg #[.int .i64 s1.W, .int .i64 s1.H, .slice A2 s1.Bias.length c3, .slice A5 s1.Dark.length c6, .slice A8 s1.Flat.length c9, .int .i64 s1.Full, .int .i64 s1.Gain, .int .i64 s1.Noise], .slice A12 light11.length c13, .int .i64 (light11.length : Int), .int .i64 vt26, .int .i64 vt26, .bool false, undef, .int .i64 beats15, .bool false, .bool false, .int .i64 beats15, .bool false, .bool false, .bool false, .slice A12 light11.length c13, .bool false, .bool false, .slice A12 light11.length c13, .int .i64 (light11.length : Int), .slice (some ⟨b62, 0, none⟩) (List.replicate ((light11.length : Int)).toNat (0 : Int)).length ((light11.length : Int)).toNat, .slice A12 light11.length c13, .int .i64 (light11.length : Int), .int .i64 0, undef, undef, undef, undef, undef, undef, undef, undef, undef, undef, undef, undef, undef, undef, undef, undef, undef, undef, undef, undef, undef, undef, undef, undef, undef, undef, undef, undef], []⟩) (by kernel_rfl) ?_
          refine wpList_nil ?_
          refine hK71 _ _ ?_
          refine blockK (fun B72 hx73 hn74 hr75 ho76 hp77 => ?_)
          have hq_ := bind_some h; clear h; obtain ⟨o140, hv215, h⟩ := hq_
          have J216 : ∀ (f206 : FM) (s212 : Seg) (out211 : List Int) (j210 : Nat → Value) (W208 : World) (a_ : Act), FM.le f50 f206 → some (out211) = some o140 → St t W208 f206 (s212 :: [(b18, .cells #[.int .i64 s1.W, .int .i64 s1.H, .slice A2 s1.Bias.length c3, .slice A5 s1.Dark.length c6, .slice A8 s1.Flat.length c9, .int .i64 s1.Full, .int .i64 s1.Gain, .int .i64 s1.Noise] 46 (0, 0))] :: H) → Own (tInt .i64) 25 f206 (some ⟨b62, 0, none⟩) ((light11.length : Int)).toNat s212 out211 → out211.length = (List.replicate ((light11.length : Int)).toNat (0 : Int)).length → a_ = ⟨#[.agg #[.int .i64 s1.W, .int .i64 s1.H, .slice A2 s1.Bias.length c3, .slice A5 s1.Dark.length c6, .slice A8 s1.Flat.length c9, .int .i64 s1.Full, .int .i64 s1.Gain, .int .i64 s1.Noise], .slice A12 light11.length c13, .int .i64 beats15, .pointer (some ⟨b18, 0, none⟩), undef, undef, .slice none 0 0, .int .i64 0, .int .i64 vt26, .slice (some ⟨b62, 0, none⟩) out211.length ((light11.length : Int)).toNat, (j210 0), (j210 1), (j210 2), (j210 3), .agg #[.int .i64 s1.W, .int .i64 s1.H, .slice A2 s1.Bias.length c3, .slice A5 s1.Dark.length c6, .slice A8 s1.Flat.length c9, .int .i64 s1.Full, .int .i64 s1.Gain, .int .i64 s1.Noise], .slice A12 light11.length c13, .int .i64 (light11.length : Int), .int .i64 vt26, .int .i64 vt26, .bool false, undef, .int .i64 beats15, .bool false, .bool false, .int .i64 beats15, .bool false, .bool false, .bool false, .slice A12 light11.length c13, .bool false, .bool false, .slice A12 light11.length c13, .int .i64 (light11.length : Int), .slice (some ⟨b62, 0, none⟩) (List.replicate ((light11.length : Int)).toNat (0 : Int)).length ((light11.length : Int)).toNat, .slice A12 light11.length c13, .int .i64 (light11.length : Int), (j210 4), (j210 5), (j210 6), (j210 7), (j210 8), (j210 9), (j210 10), (j210 11), (j210 12), (j210 13), (j210 14), (j210 15), (j210 16), (j210 17), (j210 18), (j210 19), (j210 20), (j210 21), (j210 22), (j210 23), (j210 24), (j210 25), (j210 26), (j210 27), (j210 28), (j210 29), (j210 30), (j210 31), undef], []⟩ → K68 a_ W208 := by
            intro f206 s212 out211 j210 W208 a_ L207 hj217 HS209 HO213 HL214 hfr_; subst hfr_
            injection hj217 with hj217; subst hj217; try dsimp only at h
            refine hK69 _ _ ?_
            refine wp_seq_k (fun K218 hK219 => ?_)
            refine wp_region_lit ?_
            refine seqS3 (a' := ⟨#[.agg #[.int .i64 s1.W, .int .i64 s1.H, .slice A2 s1.Bias.length c3, .slice A5 s1.Dark.length c6, .slice A8 s1.Flat.length c9, .int .i64 s1.Full, .int .i64 s1.Gain, .int .i64 s1.Noise], .slice A12 light11.length c13, .int .i64 beats15, .pointer (some ⟨b18, 0, none⟩), undef, undef, .slice (some ⟨b62, 0, none⟩) out211.length ((light11.length : Int)).toNat, .int .i64 0, .int .i64 vt26, .slice (some ⟨b62, 0, none⟩) out211.length ((light11.length : Int)).toNat, (j210 0), (j210 1), (j210 2), (j210 3), .agg #[.int .i64 s1.W, .int .i64 s1.H, .slice A2 s1.Bias.length c3, .slice A5 s1.Dark.length c6, .slice A8 s1.Flat.length c9, .int .i64 s1.Full, .int .i64 s1.Gain, .int .i64 s1.Noise], .slice A12 light11.length c13, .int .i64 (light11.length : Int), .int .i64 vt26, .int .i64 vt26, .bool false, undef, .int .i64 beats15, .bool false, .bool false, .int .i64 beats15, .bool false, .bool false, .bool false, .slice A12 light11.length c13, .bool false, .bool false, .slice A12 light11.length c13, .int .i64 (light11.length : Int), .slice (some ⟨b62, 0, none⟩) (List.replicate ((light11.length : Int)).toNat (0 : Int)).length ((light11.length : Int)).toNat, .slice A12 light11.length c13, .int .i64 (light11.length : Int), (j210 4), (j210 5), (j210 6), (j210 7), (j210 8), (j210 9), (j210 10), (j210 11), (j210 12), (j210 13), (j210 14), (j210 15), (j210 16), (j210 17), (j210 18), (j210 19), (j210 20), (j210 21), (j210 22), (j210 23), (j210 24), (j210 25), (j210 26), (j210 27), (j210 28), (j210 29), (j210 30), (j210 31), .slice (some ⟨b62, 0, none⟩) out211.length ((light11.length : Int)).toNat], []⟩) (by kernel_rfl) ?_
            refine wpList_nil ?_
            refine hK219 _ _ ?_
            refine wp_ret ?_
            refine hret _ _ ?_
            refine ends_still (v := Value.tuple #[.slice (some ⟨b62, 0, none⟩) out211.length ((light11.length : Int)).toNat, .int .i64 0]) (by kernel_rfl) (by kernel_rfl) ?_
            have HS236 := HS209.u1
            have HS237 := HS236.drop
            injection h with h
            injection h with h0_ h
            subst h0_ h
            exact ⟨f206, (some ⟨b62, 0, none⟩), (((light11.length : Int)).toNat), s212, rfl, (L29.trans (L51.trans L207)), HS237, HO213⟩
          clear h; have h := hv215; clear hv215
          refine loopK (fun n_ a_ w_ => ∃ (f144 : FM) (s150 : Seg) (out149 : List Int) (x153 : Int) (j148 : Nat → Value), FM.le f50 f144 ∧ St t w_ f144 (s150 :: [(b18, .cells #[.int .i64 s1.W, .int .i64 s1.H, .slice A2 s1.Bias.length c3, .slice A5 s1.Dark.length c6, .slice A8 s1.Flat.length c9, .int .i64 s1.Full, .int .i64 s1.Gain, .int .i64 s1.Noise] 46 (0, 0))] :: H) ∧ Own (tInt .i64) 25 f144 (some ⟨b62, 0, none⟩) ((light11.length : Int)).toNat s150 out149 ∧ out149.length = (List.replicate ((light11.length : Int)).toNat (0 : Int)).length ∧ sensor_Expect.l0 k light11 s1 beats15 n_ out149 x153 = some o140 ∧ a_ = ⟨#[.agg #[.int .i64 s1.W, .int .i64 s1.H, .slice A2 s1.Bias.length c3, .slice A5 s1.Dark.length c6, .slice A8 s1.Flat.length c9, .int .i64 s1.Full, .int .i64 s1.Gain, .int .i64 s1.Noise], .slice A12 light11.length c13, .int .i64 beats15, .pointer (some ⟨b18, 0, none⟩), undef, undef, .slice none 0 0, .int .i64 0, .int .i64 vt26, .slice (some ⟨b62, 0, none⟩) out149.length ((light11.length : Int)).toNat, (j148 0), (j148 1), (j148 2), (j148 3), .agg #[.int .i64 s1.W, .int .i64 s1.H, .slice A2 s1.Bias.length c3, .slice A5 s1.Dark.length c6, .slice A8 s1.Flat.length c9, .int .i64 s1.Full, .int .i64 s1.Gain, .int .i64 s1.Noise], .slice A12 light11.length c13, .int .i64 (light11.length : Int), .int .i64 vt26, .int .i64 vt26, .bool false, undef, .int .i64 beats15, .bool false, .bool false, .int .i64 beats15, .bool false, .bool false, .bool false, .slice A12 light11.length c13, .bool false, .bool false, .slice A12 light11.length c13, .int .i64 (light11.length : Int), .slice (some ⟨b62, 0, none⟩) (List.replicate ((light11.length : Int)).toNat (0 : Int)).length ((light11.length : Int)).toNat, .slice A12 light11.length c13, .int .i64 (light11.length : Int), .int .i64 x153, (j148 4), (j148 5), (j148 6), (j148 7), (j148 8), (j148 9), (j148 10), (j148 11), (j148 12), (j148 13), (j148 14), (j148 15), (j148 16), (j148 17), (j148 18), (j148 19), (j148 20), (j148 21), (j148 22), (j148 23), (j148 24), (j148 25), (j148 26), (j148 27), (j148 28), (j148 29), (j148 30), undef], []⟩) k ⟨f50, s64, (List.replicate ((light11.length : Int)).toNat (0 : Int)), 0, (fun i_ => [undef, undef, undef, undef, undef, undef, undef, undef, undef, undef, undef, undef, undef, undef, undef, undef, undef, undef, undef, undef, undef, undef, undef, undef, undef, undef, undef, undef, undef, undef, undef].getD i_ undef), (FM.le.refl _), HS65, HO66, rfl, h, (by kernel_rfl)⟩ ?_
          clear h
          rintro n143 _ W146 ⟨f144, s150, out149, x153, j148, L145, HS147, HO151, HL152, h, rfl⟩ K141 hK142
          obtain _ | n143 := n143
          · exact nomatch h
          simp only [sensor_Expect.l0] at h
          refine wp_seq_k (fun K154 hK155 => ?_)
          refine wp_region_lit ?_
          refine seqS1 (a' := ⟨#[.agg #[.int .i64 s1.W, .int .i64 s1.H, .slice A2 s1.Bias.length c3, .slice A5 s1.Dark.length c6, .slice A8 s1.Flat.length c9, .int .i64 s1.Full, .int .i64 s1.Gain, .int .i64 s1.Noise], .slice A12 light11.length c13, .int .i64 beats15, .pointer (some ⟨b18, 0, none⟩), undef, undef, .slice none 0 0, .int .i64 0, .int .i64 vt26, .slice (some ⟨b62, 0, none⟩) out149.length ((light11.length : Int)).toNat, (j148 0), (j148 1), (j148 2), (j148 3), .agg #[.int .i64 s1.W, .int .i64 s1.H, .slice A2 s1.Bias.length c3, .slice A5 s1.Dark.length c6, .slice A8 s1.Flat.length c9, .int .i64 s1.Full, .int .i64 s1.Gain, .int .i64 s1.Noise], .slice A12 light11.length c13, .int .i64 (light11.length : Int), .int .i64 vt26, .int .i64 vt26, .bool false, undef, .int .i64 beats15, .bool false, .bool false, .int .i64 beats15, .bool false, .bool false, .bool false, .slice A12 light11.length c13, .bool false, .bool false, .slice A12 light11.length c13, .int .i64 (light11.length : Int), .slice (some ⟨b62, 0, none⟩) (List.replicate ((light11.length : Int)).toNat (0 : Int)).length ((light11.length : Int)).toNat, .slice A12 light11.length c13, .int .i64 (light11.length : Int), .int .i64 x153, .bool (decide (x153 < (light11.length : Int))), (j148 5), (j148 6), (j148 7), (j148 8), (j148 9), (j148 10), (j148 11), (j148 12), (j148 13), (j148 14), (j148 15), (j148 16), (j148 17), (j148 18), (j148 19), (j148 20), (j148 21), (j148 22), (j148 23), (j148 24), (j148 25), (j148 26), (j148 27), (j148 28), (j148 29), (j148 30), undef], []⟩) (by kernel_rfl) ?_
          refine wpList_nil ?_
          refine hK155 _ _ ?_
          refine wp_seq_k (fun K156 hK157 => ?_)
          have hq_ := ite_some h; clear h; rcases hq_ with ⟨c159, h⟩ | ⟨c159, h⟩
          · have c159 : x153 < (light11.length : Int) := c159
            refine wpRwI 37 (x := (decide (x153 < (light11.length : Int)))) (v := true) (by kernel_rfl) (decide_eq_true c159) ?_
            refine condT (by kernel_rfl) ?_
            refine wp_skip ?_
            refine hK157 _ _ ?_
            refine wp_seq_k (fun K160 hK161 => ?_)
            refine blockK (fun B162 hx163 hn164 hr165 ho166 hp167 => ?_)
            refine wp_seq_k (fun K169 hK170 => ?_)
            refine wp_region_lit ?_
            have hq_ := guard_some h; clear h; obtain ⟨c171, h⟩ := hq_
            have c171 : 0 ≤ x153 := c171
            obtain ⟨b175, of176, cs172, rfl, hr173, hc174⟩ := (HR14.mono (L29.trans (L51.trans L145))).at (i := x153) c171 c159
            obtain rfl := hr173
            refine seqL1 (by kernel_rfl) ?_
            refine seqK rfl (does_run (run_index (sz := 1) rfl Try.underlying44 (by kernel_rfl) (by kernel_rfl : _ = Value.slice (some ⟨b175, of176, none⟩) light11.length c13) (by kernel_rfl : _ = Value.int .i64 x153) c171 c159 W146) ?_)
            refine seqK rfl (does_run (run_load rfl Try.underlying25 rfl (by kernel_rfl : _ = Value.pointer (some ⟨b175, of176 + (x153 : Int).toNat * 1, none⟩)) ((hc174 (FM.le.refl _) HS147) 0 (by decide))) ?_)
            refine seqS2 (a' := ⟨#[.agg #[.int .i64 s1.W, .int .i64 s1.H, .slice A2 s1.Bias.length c3, .slice A5 s1.Dark.length c6, .slice A8 s1.Flat.length c9, .int .i64 s1.Full, .int .i64 s1.Gain, .int .i64 s1.Noise], .slice (some ⟨b175, of176, none⟩) light11.length c13, .int .i64 beats15, .pointer (some ⟨b18, 0, none⟩), undef, undef, .slice none 0 0, .int .i64 0, .int .i64 vt26, .slice (some ⟨b62, 0, none⟩) out149.length ((light11.length : Int)).toNat, .int .i64 x153, .int .i64 (rd light11 x153), (j148 2), (j148 3), .agg #[.int .i64 s1.W, .int .i64 s1.H, .slice A2 s1.Bias.length c3, .slice A5 s1.Dark.length c6, .slice A8 s1.Flat.length c9, .int .i64 s1.Full, .int .i64 s1.Gain, .int .i64 s1.Noise], .slice (some ⟨b175, of176, none⟩) light11.length c13, .int .i64 (light11.length : Int), .int .i64 vt26, .int .i64 vt26, .bool false, undef, .int .i64 beats15, .bool false, .bool false, .int .i64 beats15, .bool false, .bool false, .bool false, .slice (some ⟨b175, of176, none⟩) light11.length c13, .bool false, .bool false, .slice (some ⟨b175, of176, none⟩) light11.length c13, .int .i64 (light11.length : Int), .slice (some ⟨b62, 0, none⟩) (List.replicate ((light11.length : Int)).toNat (0 : Int)).length ((light11.length : Int)).toNat, .slice (some ⟨b175, of176, none⟩) light11.length c13, .int .i64 (light11.length : Int), .int .i64 x153, .bool true, .int .i64 x153, .pointer (some ⟨b175, of176 + (x153 : Int).toNat * 1, none⟩), .int .i64 (rd light11 x153), (j148 8), (j148 9), (j148 10), (j148 11), (j148 12), (j148 13), (j148 14), (j148 15), (j148 16), (j148 17), (j148 18), (j148 19), (j148 20), (j148 21), (j148 22), (j148 23), (j148 24), (j148 25), (j148 26), (j148 27), (j148 28), (j148 29), (j148 30), undef], []⟩) (by kernel_rfl) ?_
            refine wpList_nil ?_
            refine hK170 _ _ ?_
            refine wp_seq_k (fun K177 hK178 => ?_)
            refine wp_region_lit ?_
            refine seqL2 (by kernel_rfl) ?_
            refine seqK rfl (does_run (run_load rfl Try.underlying40 rfl (by kernel_rfl : _ = Value.pointer (some ⟨b18, 4, none⟩)) (HS147.u1.cell 4)) ?_)
            have hq_ := guard_some h; clear h; obtain ⟨c179, h⟩ := hq_
            have c179 : x153 < (s1.Flat.length : Int) := c179
            obtain ⟨b183, of184, cs180, rfl, hr181, hc182⟩ := (HR10.mono (L29.trans (L51.trans L145))).at (i := x153) c171 c179
            obtain rfl := hr181
            refine seqL1 (by kernel_rfl) ?_
            refine seqK rfl (does_run (run_index (sz := 1) rfl Try.underlying40 (by kernel_rfl) (by kernel_rfl : _ = Value.slice (some ⟨b183, of184, none⟩) s1.Flat.length c9) (by kernel_rfl : _ = Value.int .i64 x153) c171 c179 W146) ?_)
            refine seqK rfl (does_run (run_load rfl Try.underlying3 rfl (by kernel_rfl : _ = Value.pointer (some ⟨b183, of184 + (x153 : Int).toNat * 1, none⟩)) ((hc182 (FM.le.refl _) HS147) 0 (by decide))) ?_)
            have hq_ := bind_some h; clear h; obtain ⟨⟨vt185, vt186⟩, hc187, h⟩ := hq_
            refine seqK rfl (does_call (f := 54) (args := #[.int .i64 (rd light11 x153), .int .i64 (rd s1.Flat x153), .int .i64 4096]) (by kernel_rfl) (num_MulDiv.calls k (rd light11 x153) (rd s1.Flat x153) 4096 HS147 vt185 vt186 hc187) ?_)
            rintro _ W190 ⟨f188, rfl, L189, HS191⟩
            refine ⟨_, rfl, ?_⟩
            refine seqS5 (a' := ⟨#[.agg #[.int .i64 s1.W, .int .i64 s1.H, .slice A2 s1.Bias.length c3, .slice A5 s1.Dark.length c6, .slice (some ⟨b183, of184, none⟩) s1.Flat.length c9, .int .i64 s1.Full, .int .i64 s1.Gain, .int .i64 s1.Noise], .slice (some ⟨b175, of176, none⟩) light11.length c13, .int .i64 beats15, .pointer (some ⟨b18, 0, none⟩), undef, undef, .slice none 0 0, .int .i64 0, .int .i64 vt26, .slice (some ⟨b62, 0, none⟩) out149.length ((light11.length : Int)).toNat, .int .i64 x153, .int .i64 (rd light11 x153), .int .i64 vt185, .int .i64 vt186, .agg #[.int .i64 s1.W, .int .i64 s1.H, .slice A2 s1.Bias.length c3, .slice A5 s1.Dark.length c6, .slice (some ⟨b183, of184, none⟩) s1.Flat.length c9, .int .i64 s1.Full, .int .i64 s1.Gain, .int .i64 s1.Noise], .slice (some ⟨b175, of176, none⟩) light11.length c13, .int .i64 (light11.length : Int), .int .i64 vt26, .int .i64 vt26, .bool false, undef, .int .i64 beats15, .bool false, .bool false, .int .i64 beats15, .bool false, .bool false, .bool false, .slice (some ⟨b175, of176, none⟩) light11.length c13, .bool false, .bool false, .slice (some ⟨b175, of176, none⟩) light11.length c13, .int .i64 (light11.length : Int), .slice (some ⟨b62, 0, none⟩) (List.replicate ((light11.length : Int)).toNat (0 : Int)).length ((light11.length : Int)).toNat, .slice (some ⟨b175, of176, none⟩) light11.length c13, .int .i64 (light11.length : Int), .int .i64 x153, .bool true, .int .i64 x153, .pointer (some ⟨b175, of176 + (x153 : Int).toNat * 1, none⟩), .int .i64 (rd light11 x153), .tuple #[.int .i64 vt185, .int .i64 vt186], .int .i64 (rd light11 x153), .pointer (some ⟨b18, 4, none⟩), .slice (some ⟨b183, of184, none⟩) s1.Flat.length c9, .int .i64 x153, .pointer (some ⟨b183, of184 + (x153 : Int).toNat * 1, none⟩), .int .i64 (rd s1.Flat x153), .tuple #[.int .i64 vt185, .int .i64 vt186], .int .i64 vt185, .int .i64 vt186, (j148 18), (j148 19), (j148 20), (j148 21), (j148 22), (j148 23), (j148 24), (j148 25), (j148 26), (j148 27), (j148 28), (j148 29), (j148 30), undef], []⟩) (by kernel_rfl) ?_
            refine wpList_nil ?_
            refine hK178 _ _ ?_
            refine wp_region_lit ?_
            refine seqL4 (by kernel_rfl) ?_
            refine seqK rfl (does_run (run_load rfl Try.underlying44 rfl (by kernel_rfl : _ = Value.pointer (some ⟨b18, 3, none⟩)) (HS191.u1.cell 3)) ?_)
            have hq_ := guard_some h; clear h; obtain ⟨c192, h⟩ := hq_
            have c192 : x153 < (s1.Dark.length : Int) := c192
            obtain ⟨b196, of197, cs193, rfl, hr194, hc195⟩ := (HR7.mono (L29.trans (L51.trans (L145.trans L189)))).at (i := x153) c171 c192
            obtain rfl := hr194
            refine seqL1 (by kernel_rfl) ?_
            refine seqK rfl (does_run (run_index (sz := 1) rfl Try.underlying44 (by kernel_rfl) (by kernel_rfl : _ = Value.slice (some ⟨b196, of197, none⟩) s1.Dark.length c6) (by kernel_rfl : _ = Value.int .i64 x153) c171 c192 W190) ?_)
            refine seqK rfl (does_run (run_load rfl Try.underlying25 rfl (by kernel_rfl : _ = Value.pointer (some ⟨b196, of197 + (x153 : Int).toNat * 1, none⟩)) ((hc195 (FM.le.refl _) HS191) 0 (by decide))) ?_)
            have hq_ := guard_some h; clear h; obtain ⟨c198, h⟩ := hq_
            have c198 : x153 < (out149.length : Int) := c198
            obtain ⟨cs199, hr200, hc201⟩ := (HO151.mono L189).at' (i := x153) c171 c198
            obtain rfl := hr200
            refine seqL3 (by kernel_rfl) ?_
            refine seqK rfl (does_run (run_index (sz := 1) rfl Try.underlying44 (by kernel_rfl) (by kernel_rfl : _ = Value.slice (some ⟨b62, 0, none⟩) out149.length ((light11.length : Int)).toNat) (by kernel_rfl : _ = Value.int .i64 x153) c171 c198 W190) ?_)
            refine seqK rfl (does_put (e := (tInt .i64)) (E := 25) (vs := [.int .i64 (w64 (vt185 + (w64 ((rd s1.Dark x153) * beats15))))]) (u := w64 (vt185 + (w64 ((rd s1.Dark x153) * beats15)))) (i := x153) rfl (by kernel_rfl) (HO151.mono L189) HS191 rfl (by kernel_rfl : _ = Value.pointer (some ⟨b62, 0 + (x153 : Int).toNat * 1, none⟩)) (by kernel_rfl : _ = Value.int .i64 (w64 (vt185 + (w64 ((rd s1.Dark x153) * beats15))))) rfl rfl c171 c198 ?_)
            intro W202 s203 HS204 HO205
            refine seqRwS 9 (A := (some ⟨b62, 0, none⟩)) (m := out149.length) (n := (out149.set (x153).toNat (w64 (vt185 + (w64 ((rd s1.Dark x153) * beats15))))).length) (c := ((light11.length : Int)).toNat) (by kernel_rfl) (List.length_set).symm ?_
            refine seqRwS 51 (A := (some ⟨b62, 0, none⟩)) (m := out149.length) (n := (out149.set (x153).toNat (w64 (vt185 + (w64 ((rd s1.Dark x153) * beats15))))).length) (c := ((light11.length : Int)).toNat) (by kernel_rfl) (List.length_set).symm ?_
            refine wpList_nil ?_
            refine hn164 _ _ ?_
            refine hK161 _ _ ?_
            refine wp_region_lit ?_
            refine seqS2 (a' := ⟨#[.agg #[.int .i64 s1.W, .int .i64 s1.H, .slice A2 s1.Bias.length c3, .slice (some ⟨b196, of197, none⟩) s1.Dark.length c6, .slice (some ⟨b183, of184, none⟩) s1.Flat.length c9, .int .i64 s1.Full, .int .i64 s1.Gain, .int .i64 s1.Noise], .slice (some ⟨b175, of176, none⟩) light11.length c13, .int .i64 beats15, .pointer (some ⟨b18, 0, none⟩), undef, undef, .slice none 0 0, .int .i64 0, .int .i64 vt26, .slice (some ⟨b62, 0, none⟩) (out149.set (x153).toNat (w64 (vt185 + (w64 ((rd s1.Dark x153) * beats15))))).length ((light11.length : Int)).toNat, .int .i64 x153, .int .i64 (rd light11 x153), .int .i64 vt185, .int .i64 vt186, .agg #[.int .i64 s1.W, .int .i64 s1.H, .slice A2 s1.Bias.length c3, .slice (some ⟨b196, of197, none⟩) s1.Dark.length c6, .slice (some ⟨b183, of184, none⟩) s1.Flat.length c9, .int .i64 s1.Full, .int .i64 s1.Gain, .int .i64 s1.Noise], .slice (some ⟨b175, of176, none⟩) light11.length c13, .int .i64 (light11.length : Int), .int .i64 vt26, .int .i64 vt26, .bool false, undef, .int .i64 beats15, .bool false, .bool false, .int .i64 beats15, .bool false, .bool false, .bool false, .slice (some ⟨b175, of176, none⟩) light11.length c13, .bool false, .bool false, .slice (some ⟨b175, of176, none⟩) light11.length c13, .int .i64 (light11.length : Int), .slice (some ⟨b62, 0, none⟩) (List.replicate ((light11.length : Int)).toNat (0 : Int)).length ((light11.length : Int)).toNat, .slice (some ⟨b175, of176, none⟩) light11.length c13, .int .i64 (light11.length : Int), .int .i64 (w64 (x153 + 1)), .bool true, .int .i64 x153, .pointer (some ⟨b175, of176 + (x153 : Int).toNat * 1, none⟩), .int .i64 (rd light11 x153), .tuple #[.int .i64 vt185, .int .i64 vt186], .int .i64 (rd light11 x153), .pointer (some ⟨b18, 4, none⟩), .slice (some ⟨b183, of184, none⟩) s1.Flat.length c9, .int .i64 x153, .pointer (some ⟨b183, of184 + (x153 : Int).toNat * 1, none⟩), .int .i64 (rd s1.Flat x153), .tuple #[.int .i64 vt185, .int .i64 vt186], .int .i64 vt185, .int .i64 vt186, .slice (some ⟨b62, 0, none⟩) (out149.set (x153).toNat (w64 (vt185 + (w64 ((rd s1.Dark x153) * beats15))))).length ((light11.length : Int)).toNat, .int .i64 x153, .int .i64 vt185, .pointer (some ⟨b18, 3, none⟩), .slice (some ⟨b196, of197, none⟩) s1.Dark.length c6, .int .i64 x153, .pointer (some ⟨b196, of197 + (x153 : Int).toNat * 1, none⟩), .int .i64 (rd s1.Dark x153), .int .i64 beats15, .int .i64 (w64 ((rd s1.Dark x153) * beats15)), .int .i64 (w64 (vt185 + (w64 ((rd s1.Dark x153) * beats15)))), .pointer (some ⟨b62, 0 + (x153 : Int).toNat * 1, none⟩), .int .i64 (w64 (x153 + 1)), undef], []⟩) (by kernel_rfl) ?_
            refine wpList_nil ?_
            refine hK142 n143 _ _ (Nat.lt_succ_self _) ?_
            exact ⟨f188, s203, (out149.set (x153).toNat (w64 (vt185 + (w64 ((rd s1.Dark x153) * beats15))))), (w64 (x153 + 1)), (fun i_ => [Value.int .i64 x153, Value.int .i64 (rd light11 x153), Value.int .i64 vt185, Value.int .i64 vt186, Value.bool true, Value.int .i64 x153, Value.pointer (some ⟨b175, of176 + (x153 : Int).toNat * 1, none⟩), Value.int .i64 (rd light11 x153), Value.tuple #[.int .i64 vt185, .int .i64 vt186], Value.int .i64 (rd light11 x153), Value.pointer (some ⟨b18, 4, none⟩), Value.slice (some ⟨b183, of184, none⟩) s1.Flat.length c9, Value.int .i64 x153, Value.pointer (some ⟨b183, of184 + (x153 : Int).toNat * 1, none⟩), Value.int .i64 (rd s1.Flat x153), Value.tuple #[.int .i64 vt185, .int .i64 vt186], Value.int .i64 vt185, Value.int .i64 vt186, Value.slice (some ⟨b62, 0, none⟩) (out149.set (x153).toNat (w64 (vt185 + (w64 ((rd s1.Dark x153) * beats15))))).length ((light11.length : Int)).toNat, Value.int .i64 x153, Value.int .i64 vt185, Value.pointer (some ⟨b18, 3, none⟩), Value.slice (some ⟨b196, of197, none⟩) s1.Dark.length c6, Value.int .i64 x153, Value.pointer (some ⟨b196, of197 + (x153 : Int).toNat * 1, none⟩), Value.int .i64 (rd s1.Dark x153), Value.int .i64 beats15, Value.int .i64 (w64 ((rd s1.Dark x153) * beats15)), Value.int .i64 (w64 (vt185 + (w64 ((rd s1.Dark x153) * beats15)))), Value.pointer (some ⟨b62, 0 + (x153 : Int).toNat * 1, none⟩), Value.int .i64 (w64 (x153 + 1))].getD i_ undef), (L145.trans L189), HS204, HO205, (List.length_set.trans HL152), h, (by kernel_rfl)⟩
          · have c159 : ¬ (x153 < (light11.length : Int)) := c159
            refine wpRwI 37 (x := (decide (x153 < (light11.length : Int)))) (v := false) (by kernel_rfl) (decide_eq_false c159) ?_
            refine condF (by kernel_rfl) ?_
            refine wp_exit ?_
            refine hx73 _ _ ?_
            exact J216 f144 s150 out149 (fun i_ => [(j148 0), (j148 1), (j148 2), (j148 3), Value.int .i64 x153, Value.bool false, (j148 5), (j148 6), (j148 7), (j148 8), (j148 9), (j148 10), (j148 11), (j148 12), (j148 13), (j148 14), (j148 15), (j148 16), (j148 17), (j148 18), (j148 19), (j148 20), (j148 21), (j148 22), (j148 23), (j148 24), (j148 25), (j148 26), (j148 27), (j148 28), (j148 29), (j148 30)].getD i_ undef) W146 _ L145 h HS147 HO151 HL152 (by kernel_rfl)

set_option maxRecDepth 100000 in
set_option maxHeartbeats 4000000 in
theorem sensor_outside_Quanta_1.calls (k : Nat) (b1 : Nat) (v3 : Int) (x4 : Int) {t w : World} {f : FM} {H : List Seg} (HS : St t w f ([(b1, .cells #[.int .i64 v3] 22 (0, 0))] :: H)) (r1 : Bool) (h : sensor_outside_Quanta_1 k v3 x4 = some r1) :
    Calls Try.prog 61 #[.int .i64 x4, .pointer (some ⟨b1, 0, none⟩)] w (fun e w' => ∃ (g : FM), e = .returned (Value.bool r1) ∧ FM.le f g ∧ St t w' g ([(b1, .cells #[.int .i64 v3] 22 (0, 0))] :: H)) := by
  unfold sensor_outside_Quanta_1 at h
  refine enter Try.func61 rfl (tm := #[.int .i64 x4, .pointer (some ⟨b1, 0, none⟩), undef, undef, undef, undef, undef, undef, undef, undef, undef]) (by kernel_rfl) ?_
  intro B hret hnor hnp
  refine wp_seq_k (fun K5 hK6 => ?_)
  refine wp_region_lit ?_
  refine seqS1 (a' := ⟨#[.int .i64 x4, .pointer (some ⟨b1, 0, none⟩), undef, .bool false, undef, undef, undef, undef, undef, undef, undef], []⟩) (by kernel_rfl) ?_
  refine wpList_nil ?_
  refine hK6 _ _ ?_
  refine wp_seq_k (fun K7 hK8 => ?_)
  refine wp_region_lit ?_
  refine seqS3 (a' := ⟨#[.int .i64 x4, .pointer (some ⟨b1, 0, none⟩), undef, .bool false, .int .i64 x4, .bool (decide (x4 < 0)), .bool (decide (x4 < 0)), undef, undef, undef, undef], []⟩) (by kernel_rfl) ?_
  have hq_ := ite_some h; clear h; rcases hq_ with ⟨c9, h⟩ | ⟨c9, h⟩
  · have c9 : x4 < 0 := c9
    refine seqRwI 5 (x := (decide (x4 < 0))) (v := true) (by kernel_rfl) (decide_eq_true c9) ?_
    refine seqRwI 6 (x := (decide (x4 < 0))) (v := true) (by kernel_rfl) (decide_eq_true c9) ?_
    refine seqS5 (a' := ⟨#[.int .i64 x4, .pointer (some ⟨b1, 0, none⟩), undef, .bool true, .int .i64 x4, .bool true, .bool true, undef, undef, undef, .bool true], []⟩) (by kernel_rfl) ?_
    refine wpList_nil ?_
    refine hK8 _ _ ?_
    refine wp_ret ?_
    refine hret _ _ ?_
    refine ends_still (v := Value.bool true) (by kernel_rfl) (by kernel_rfl) ?_
    injection h with h
    subst h
    exact ⟨f, rfl, FM.le.refl _, HS⟩
  · have c9 : ¬ (x4 < 0) := c9
    refine seqRwI 5 (x := (decide (x4 < 0))) (v := false) (by kernel_rfl) (decide_eq_false c9) ?_
    refine seqRwI 6 (x := (decide (x4 < 0))) (v := false) (by kernel_rfl) (decide_eq_false c9) ?_
    refine seqL1 (by kernel_rfl) ?_
    refine seqG (by kernel_rfl) (does_run (run_load rfl Try.underlying22 rfl (by kernel_rfl : _ = Value.pointer (some ⟨b1, 0, none⟩)) (HS.cell 0)) ?_)
    refine seqS3 (a' := ⟨#[.int .i64 x4, .pointer (some ⟨b1, 0, none⟩), undef, .bool (decide (x4 > v3)), .int .i64 x4, .bool false, .bool false, .int .i64 x4, .int .i64 v3, .bool (decide (x4 > v3)), .bool (decide (x4 > v3))], []⟩) (by kernel_rfl) ?_
    refine wpList_nil ?_
    refine hK8 _ _ ?_
    refine wp_ret ?_
    refine hret _ _ ?_
    refine ends_still (v := Value.bool (decide (x4 > v3))) (by kernel_rfl) (by kernel_rfl) ?_
    injection h with h
    subst h
    exact ⟨f, rfl, FM.le.refl _, HS⟩

set_option maxRecDepth 100000 in
set_option maxHeartbeats 4000000 in
theorem slices_IndexFunc_Quanta__sensor_outside_Quanta_1.calls (k : Nat) (b1 : Nat) (A5 : Option Addr) (c6 : Nat) (v3 : Int) (s4 : List Int) {t w : World} {f : FM} {H : List Seg} (HS : St t w f ([(b1, .cells #[.int .i64 v3] 22 (0, 0))] :: H)) (HR7 : SlR (tInt .i64) f A5 c6 s4) (r1 : Int) (h : slices_IndexFunc_Quanta__sensor_outside_Quanta_1 k v3 s4 = some r1) :
    Calls Try.prog 79 #[.slice A5 s4.length c6, .func (.func 61) #[] #[.pointer (some ⟨b1, 0, none⟩)]] w (fun e w' => ∃ (g : FM), e = .returned (Value.int .i64 r1) ∧ FM.le f g ∧ St t w' g ([(b1, .cells #[.int .i64 v3] 22 (0, 0))] :: H)) := by
  unfold slices_IndexFunc_Quanta__sensor_outside_Quanta_1 at h
  refine enter Try.func79 rfl (tm := #[.slice A5 s4.length c6, .func (.func 61) #[] #[.pointer (some ⟨b1, 0, none⟩)], undef, undef, undef, undef, undef, undef, undef, undef, undef, undef, undef, undef, undef, undef, undef, undef, undef]) (by kernel_rfl) ?_
  intro B hret hnor hnp
  refine wp_seq_k (fun K8 hK9 => ?_)
  refine wp_region_lit ?_
  refine seqS1 (a' := ⟨#[.slice A5 s4.length c6, .func (.func 61) #[] #[.pointer (some ⟨b1, 0, none⟩)], undef, undef, .int .i64 0, undef, undef, undef, undef, undef, undef, undef, undef, undef, undef, undef, undef, undef, undef], []⟩) (by kernel_rfl) ?_
  refine wpList_nil ?_
  refine hK9 _ _ ?_
  refine wp_seq_k (fun K10 hK11 => ?_)
  refine wp_seq_k (fun K12 hK13 => ?_)
  refine wp_region_lit ?_
  refine seqS3 (a' := ⟨#[.slice A5 s4.length c6, .func (.func 61) #[] #[.pointer (some ⟨b1, 0, none⟩)], undef, undef, .int .i64 0, undef, .slice A5 s4.length c6, .int .i64 (s4.length : Int), .int .i64 0, undef, undef, undef, undef, undef, undef, undef, undef, undef, undef], []⟩) (by kernel_rfl) ?_
  refine wpList_nil ?_
  refine hK13 _ _ ?_
  refine blockK (fun B14 hx15 hn16 hr17 ho18 hp19 => ?_)
  have hq_ := bind_some h; clear h; obtain ⟨o20, hv70, h⟩ := hq_
  have JR72 : ∀ z_, some (Sum.inl z_) = some o20 → some z_ = some r1 := by
    intro z_ e_; injection e_ with e_; subst e_; exact h
  have J71 : ∀ (f65 : FM) (j69 : Nat → Value) (W67 : World) (a_ : Act), FM.le f f65 → some (Sum.inr ()) = some o20 → St t W67 f65 ([(b1, .cells #[.int .i64 v3] 22 (0, 0))] :: H) → a_ = ⟨#[.slice A5 s4.length c6, .func (.func 61) #[] #[.pointer (some ⟨b1, 0, none⟩)], undef, undef, (j69 0), (j69 1), .slice A5 s4.length c6, .int .i64 (s4.length : Int), (j69 2), (j69 3), (j69 4), (j69 5), (j69 6), (j69 7), (j69 8), (j69 9), (j69 10), (j69 11), (j69 12)], []⟩ → K10 a_ W67 := by
    intro f65 j69 W67 a_ L66 hj73 HS68  hfr_; subst hfr_
    injection hj73 with hj73; subst hj73; try dsimp only at h
    simp only [Sum.elim_inr] at h
    refine hK11 _ _ ?_
    refine wp_seq_k (fun K74 hK75 => ?_)
    refine wp_region_lit ?_
    refine seqS1 (a' := ⟨#[.slice A5 s4.length c6, .func (.func 61) #[] #[.pointer (some ⟨b1, 0, none⟩)], undef, undef, .int .i64 (-1), (j69 1), .slice A5 s4.length c6, .int .i64 (s4.length : Int), (j69 2), (j69 3), (j69 4), (j69 5), (j69 6), (j69 7), (j69 8), (j69 9), (j69 10), (j69 11), (j69 12)], []⟩) (by kernel_rfl) ?_
    refine wpList_nil ?_
    refine hK75 _ _ ?_
    refine wp_ret ?_
    refine hret _ _ ?_
    refine ends_still (v := Value.int .i64 (-1)) (by kernel_rfl) (by kernel_rfl) ?_
    injection h with h
    subst h
    exact ⟨f65, rfl, L66, HS68⟩
  clear h; have h := hv70; clear hv70
  refine loopK (fun n_ a_ w_ => ∃ (f24 : FM) (x29 : Int) (j28 : Nat → Value), FM.le f f24 ∧ St t w_ f24 ([(b1, .cells #[.int .i64 v3] 22 (0, 0))] :: H) ∧ slices_IndexFunc_Quanta__sensor_outside_Quanta_1.l0 k s4 v3 n_ x29 = some o20 ∧ a_ = ⟨#[.slice A5 s4.length c6, .func (.func 61) #[] #[.pointer (some ⟨b1, 0, none⟩)], undef, undef, (j28 0), (j28 1), .slice A5 s4.length c6, .int .i64 (s4.length : Int), .int .i64 x29, (j28 2), (j28 3), (j28 4), (j28 5), (j28 6), (j28 7), (j28 8), (j28 9), (j28 10), (j28 11)], []⟩) k ⟨f, 0, (fun i_ => [Value.int .i64 0, undef, undef, undef, undef, undef, undef, undef, undef, undef, undef, undef].getD i_ undef), (FM.le.refl _), HS, h, (by kernel_rfl)⟩ ?_
  clear h
  rintro n23 _ W26 ⟨f24, x29, j28, L25, HS27, h, rfl⟩ K21 hK22
  obtain _ | n23 := n23
  · exact nomatch h
  simp only [slices_IndexFunc_Quanta__sensor_outside_Quanta_1.l0] at h
  refine wp_seq_k (fun K30 hK31 => ?_)
  refine wp_region_lit ?_
  refine seqS1 (a' := ⟨#[.slice A5 s4.length c6, .func (.func 61) #[] #[.pointer (some ⟨b1, 0, none⟩)], undef, undef, (j28 0), (j28 1), .slice A5 s4.length c6, .int .i64 (s4.length : Int), .int .i64 x29, .bool (decide (x29 < (s4.length : Int))), (j28 3), (j28 4), (j28 5), (j28 6), (j28 7), (j28 8), (j28 9), (j28 10), (j28 11)], []⟩) (by kernel_rfl) ?_
  refine wpList_nil ?_
  refine hK31 _ _ ?_
  refine wp_seq_k (fun K32 hK33 => ?_)
  have hq_ := ite_some h; clear h; rcases hq_ with ⟨c35, h⟩ | ⟨c35, h⟩
  · have c35 : x29 < (s4.length : Int) := c35
    refine wpRwI 9 (x := (decide (x29 < (s4.length : Int)))) (v := true) (by kernel_rfl) (decide_eq_true c35) ?_
    refine condT (by kernel_rfl) ?_
    refine wp_skip ?_
    refine hK33 _ _ ?_
    refine wp_seq_k (fun K36 hK37 => ?_)
    refine blockK (fun B38 hx39 hn40 hr41 ho42 hp43 => ?_)
    refine wp_seq_k (fun K45 hK46 => ?_)
    refine wp_region_lit ?_
    refine seqS2 (a' := ⟨#[.slice A5 s4.length c6, .func (.func 61) #[] #[.pointer (some ⟨b1, 0, none⟩)], undef, undef, (j28 0), .int .i64 x29, .slice A5 s4.length c6, .int .i64 (s4.length : Int), .int .i64 x29, .bool true, .int .i64 x29, (j28 4), (j28 5), (j28 6), (j28 7), (j28 8), (j28 9), (j28 10), (j28 11)], []⟩) (by kernel_rfl) ?_
    refine wpList_nil ?_
    refine hK46 _ _ ?_
    refine wp_seq_k (fun K47 hK48 => ?_)
    refine wp_region_lit ?_
    have hq_ := guard_some h; clear h; obtain ⟨c49, h⟩ := hq_
    have c49 : 0 ≤ x29 := c49
    obtain ⟨b53, of54, cs50, rfl, hr51, hc52⟩ := (HR7.mono L25).at (i := x29) c49 c35
    obtain rfl := hr51
    refine seqL3 (by kernel_rfl) ?_
    refine seqK rfl (does_run (run_index (sz := 1) rfl Try.underlying48 (by kernel_rfl) (by kernel_rfl : _ = Value.slice (some ⟨b53, of54, none⟩) s4.length c6) (by kernel_rfl : _ = Value.int .i64 x29) c49 c35 W26) ?_)
    refine seqK rfl (does_run (run_load rfl Try.underlying22 rfl (by kernel_rfl : _ = Value.pointer (some ⟨b53, of54 + (x29 : Int).toNat * 1, none⟩)) ((hc52 (FM.le.refl _) HS27) 0 (by decide))) ?_)
    have hq_ := bind_some h; clear h; obtain ⟨vt55, hc56, h⟩ := hq_
    refine seqK rfl (does_call (f := 61) (args := #[.int .i64 (rd s4 x29), .pointer (some ⟨b1, 0, none⟩)]) (by kernel_rfl) (sensor_outside_Quanta_1.calls k b1 v3 (rd s4 x29) HS27 vt55 hc56) ?_)
    rintro _ W59 ⟨f57, rfl, L58, HS60⟩
    refine ⟨_, rfl, ?_⟩
    refine wpList_nil ?_
    refine hK48 _ _ ?_
    have hq_ := ite_some h; clear h; rcases hq_ with ⟨c62, h⟩ | ⟨c62, h⟩
    · have c62 : vt55 = true := c62
      refine wpRwI 16 (x := vt55) (v := true) (by kernel_rfl) c62 ?_
      refine condT (by kernel_rfl) ?_
      refine wp_seq_k (fun K63 hK64 => ?_)
      refine wp_region_lit ?_
      refine seqS2 (a' := ⟨#[.slice (some ⟨b53, of54, none⟩) s4.length c6, .func (.func 61) #[] #[.pointer (some ⟨b1, 0, none⟩)], undef, undef, .int .i64 x29, .int .i64 x29, .slice (some ⟨b53, of54, none⟩) s4.length c6, .int .i64 (s4.length : Int), .int .i64 x29, .bool true, .int .i64 x29, .func (.func 61) #[] #[.pointer (some ⟨b1, 0, none⟩)], .slice (some ⟨b53, of54, none⟩) s4.length c6, .int .i64 x29, .pointer (some ⟨b53, of54 + (x29 : Int).toNat * 1, none⟩), .int .i64 (rd s4 x29), .bool true, .int .i64 x29, (j28 11)], []⟩) (by kernel_rfl) ?_
      refine wpList_nil ?_
      refine hK64 _ _ ?_
      refine wp_ret ?_
      refine hr41 _ _ ?_
      refine hr17 _ _ ?_
      refine hret _ _ ?_
      refine ends_still (v := Value.int .i64 x29) (by kernel_rfl) (by kernel_rfl) ?_
      replace h := JR72 _ h
      injection h with h
      subst h
      exact ⟨f57, rfl, (L25.trans L58), HS60⟩
    · have c62 : ¬ (vt55 = true) := c62
      refine wpRwI 16 (x := vt55) (v := false) (by kernel_rfl) (Bool.eq_false_iff.mpr c62) ?_
      refine condF (by kernel_rfl) ?_
      refine wp_skip ?_
      refine hn40 _ _ ?_
      refine hK37 _ _ ?_
      refine wp_region_lit ?_
      refine seqS2 (a' := ⟨#[.slice (some ⟨b53, of54, none⟩) s4.length c6, .func (.func 61) #[] #[.pointer (some ⟨b1, 0, none⟩)], undef, undef, (j28 0), .int .i64 x29, .slice (some ⟨b53, of54, none⟩) s4.length c6, .int .i64 (s4.length : Int), .int .i64 (w64 (x29 + 1)), .bool true, .int .i64 x29, .func (.func 61) #[] #[.pointer (some ⟨b1, 0, none⟩)], .slice (some ⟨b53, of54, none⟩) s4.length c6, .int .i64 x29, .pointer (some ⟨b53, of54 + (x29 : Int).toNat * 1, none⟩), .int .i64 (rd s4 x29), .bool false, (j28 10), .int .i64 (w64 (x29 + 1))], []⟩) (by kernel_rfl) ?_
      refine wpList_nil ?_
      refine hK22 n23 _ _ (Nat.lt_succ_self _) ?_
      exact ⟨f57, (w64 (x29 + 1)), (fun i_ => [(j28 0), Value.int .i64 x29, Value.bool true, Value.int .i64 x29, Value.func (.func 61) #[] #[.pointer (some ⟨b1, 0, none⟩)], Value.slice (some ⟨b53, of54, none⟩) s4.length c6, Value.int .i64 x29, Value.pointer (some ⟨b53, of54 + (x29 : Int).toNat * 1, none⟩), Value.int .i64 (rd s4 x29), Value.bool false, (j28 10), Value.int .i64 (w64 (x29 + 1))].getD i_ undef), (L25.trans L58), HS60, h, (by kernel_rfl)⟩
  · have c35 : ¬ (x29 < (s4.length : Int)) := c35
    refine wpRwI 9 (x := (decide (x29 < (s4.length : Int)))) (v := false) (by kernel_rfl) (decide_eq_false c35) ?_
    refine condF (by kernel_rfl) ?_
    refine wp_exit ?_
    refine hx15 _ _ ?_
    exact J71 f24 (fun i_ => [(j28 0), (j28 1), Value.int .i64 x29, Value.bool false, (j28 3), (j28 4), (j28 5), (j28 6), (j28 7), (j28 8), (j28 9), (j28 10), (j28 11)].getD i_ undef) W26 _ L25 h HS27 (by kernel_rfl)

set_option maxRecDepth 100000 in
set_option maxHeartbeats 4000000 in
theorem slices_ContainsFunc_Quanta__sensor_outside_Quanta_1.calls (k : Nat) (b1 : Nat) (A5 : Option Addr) (c6 : Nat) (v3 : Int) (s4 : List Int) {t w : World} {f : FM} {H : List Seg} (HS : St t w f ([(b1, .cells #[.int .i64 v3] 22 (0, 0))] :: H)) (HR7 : SlR (tInt .i64) f A5 c6 s4) (r1 : Bool) (h : slices_ContainsFunc_Quanta__sensor_outside_Quanta_1 k v3 s4 = some r1) :
    Calls Try.prog 60 #[.slice A5 s4.length c6, .func (.func 61) #[] #[.pointer (some ⟨b1, 0, none⟩)]] w (fun e w' => ∃ (g : FM), e = .returned (Value.bool r1) ∧ FM.le f g ∧ St t w' g ([(b1, .cells #[.int .i64 v3] 22 (0, 0))] :: H)) := by
  unfold slices_ContainsFunc_Quanta__sensor_outside_Quanta_1 at h
  refine enter Try.func60 rfl (tm := #[.slice A5 s4.length c6, .func (.func 61) #[] #[.pointer (some ⟨b1, 0, none⟩)], undef, undef, undef, undef, undef, undef, undef]) (by kernel_rfl) ?_
  intro B hret hnor hnp
  refine wp_seq_k (fun K8 hK9 => ?_)
  refine wp_region_lit ?_
  refine seqS1 (a' := ⟨#[.slice A5 s4.length c6, .func (.func 61) #[] #[.pointer (some ⟨b1, 0, none⟩)], undef, undef, .bool false, undef, undef, undef, undef], []⟩) (by kernel_rfl) ?_
  refine wpList_nil ?_
  refine hK9 _ _ ?_
  refine wp_seq_k (fun K10 hK11 => ?_)
  refine wp_region_lit ?_
  have hq_ := bind_some h; clear h; obtain ⟨vt12, hc13, h⟩ := hq_
  refine seqL2 (by kernel_rfl) ?_
  refine seqK rfl (does_call (f := 79) (args := #[.slice A5 s4.length c6, .func (.func 61) #[] #[.pointer (some ⟨b1, 0, none⟩)]]) (by kernel_rfl) (slices_IndexFunc_Quanta__sensor_outside_Quanta_1.calls k b1 A5 c6 v3 s4 HS HR7 vt12 hc13) ?_)
  rintro _ W16 ⟨f14, rfl, L15, HS17⟩
  refine ⟨_, rfl, ?_⟩
  refine seqS2 (a' := ⟨#[.slice A5 s4.length c6, .func (.func 61) #[] #[.pointer (some ⟨b1, 0, none⟩)], undef, undef, .bool (decide (vt12 ≥ 0)), .slice A5 s4.length c6, .func (.func 61) #[] #[.pointer (some ⟨b1, 0, none⟩)], .int .i64 vt12, .bool (decide (vt12 ≥ 0))], []⟩) (by kernel_rfl) ?_
  refine wpList_nil ?_
  refine hK11 _ _ ?_
  refine wp_ret ?_
  refine hret _ _ ?_
  refine ends_still (v := Value.bool (decide (vt12 ≥ 0))) (by kernel_rfl) (by kernel_rfl) ?_
  injection h with h
  subst h
  exact ⟨f14, rfl, L15, HS17⟩

set_option maxRecDepth 100000 in
set_option maxHeartbeats 4000000 in
theorem sensor_outside_Quanta.calls (k : Nat) (A2 : Option Addr) (c3 : Nat) (l1 : List Int) (most5 : Int) {t w : World} {f : FM} {H : List Seg} (HS : St t w f (H)) (HR4 : SlR (tInt .i64) f A2 c3 l1) (r1 : Bool) (h : sensor_outside_Quanta k l1 most5 = some r1) :
    Calls Try.prog 45 #[.slice A2 l1.length c3, .int .i64 most5] w (fun e w' => ∃ (g : FM), e = .returned (Value.bool r1) ∧ FM.le f g ∧ St t w' g (H)) := by
  unfold sensor_outside_Quanta at h
  refine enter Try.func45 rfl (tm := #[.slice A2 l1.length c3, .int .i64 most5, undef, undef, undef, undef, undef, undef]) (by kernel_rfl) ?_
  intro B hret hnor hnp
  refine wp_seq_k (fun K6 hK7 => ?_)
  refine wp_region_lit ?_
  refine seqK rfl (does_box (cs := #[.int .i64 most5]) rfl (by kernel_rfl : _ = Value.int .i64 most5) rfl HS ?_)
  intro b8 W9 HS10
  refine seqS1 (a' := ⟨#[.slice A2 l1.length c3, .int .i64 most5, undef, .pointer (some ⟨b8, 0, none⟩), .bool false, undef, undef, undef], []⟩) (by kernel_rfl) ?_
  refine wpList_nil ?_
  refine hK7 _ _ ?_
  refine wp_seq_k (fun K12 hK13 => ?_)
  refine wp_region_lit ?_
  have hq_ := bind_some h; clear h; obtain ⟨vt14, hc15, h⟩ := hq_
  refine seqL2 (by kernel_rfl) ?_
  refine seqK rfl (does_call (f := 60) (args := #[.slice A2 l1.length c3, .func (.func 61) #[] #[.pointer (some ⟨b8, 0, none⟩)]]) (by kernel_rfl) (slices_ContainsFunc_Quanta__sensor_outside_Quanta_1.calls k b8 A2 c3 most5 l1 HS10 HR4 vt14 hc15) ?_)
  rintro _ W18 ⟨f16, rfl, L17, HS19⟩
  refine ⟨_, rfl, ?_⟩
  refine seqS1 (a' := ⟨#[.slice A2 l1.length c3, .int .i64 most5, undef, .pointer (some ⟨b8, 0, none⟩), .bool vt14, .slice A2 l1.length c3, .func (.func 61) #[] #[.pointer (some ⟨b8, 0, none⟩)], .bool vt14], []⟩) (by kernel_rfl) ?_
  refine wpList_nil ?_
  refine hK13 _ _ ?_
  refine wp_ret ?_
  refine hret _ _ ?_
  refine ends_still (v := Value.bool vt14) (by kernel_rfl) (by kernel_rfl) ?_
  have HS20 := HS19.drop
  injection h with h
  subst h
  exact ⟨f16, rfl, L17, HS20⟩

set_option maxRecDepth 100000 in
set_option maxHeartbeats 4000000 in
theorem sensor_Bleed_1.calls (k : Nat) (b1 : Nat) (A6 : Option Addr) (c7 : Nat) (b3 : Nat) (A10 : Option Addr) (c11 : Nat) (A13 : Option Addr) (c14 : Nat) (A16 : Option Addr) (c17 : Nat) (v5 : List Int) (v9 : S_Sensor) (i19 : Int) {t w : World} {f : FM} {H : List Seg} (HS : St t w f ([(b1, .cells #[.slice A6 v5.length c7] 48 (0, 0))] :: [(b3, .cells #[.int .i64 v9.W, .int .i64 v9.H, .slice A10 v9.Bias.length c11, .slice A13 v9.Dark.length c14, .slice A16 v9.Flat.length c17, .int .i64 v9.Full, .int .i64 v9.Gain, .int .i64 v9.Noise] 46 (0, 0))] :: H)) (HR8 : SlR (tInt .i64) f A6 c7 v5) (HR12 : SlR (tInt .i64) f A10 c11 v9.Bias) (HR15 : SlR (tInt .i64) f A13 c14 v9.Dark) (HR18 : SlR (tInt .i64) f A16 c17 v9.Flat) (r1 : Int) (h : sensor_Bleed_1 k v5 v9 i19 = some r1) :
    Calls Try.prog 46 #[.int .i64 i19, .pointer (some ⟨b1, 0, none⟩), .pointer (some ⟨b3, 0, none⟩)] w (fun e w' => ∃ (g : FM), e = .returned (Value.int .i64 r1) ∧ FM.le f g ∧ St t w' g ([(b1, .cells #[.slice A6 v5.length c7] 48 (0, 0))] :: [(b3, .cells #[.int .i64 v9.W, .int .i64 v9.H, .slice A10 v9.Bias.length c11, .slice A13 v9.Dark.length c14, .slice A16 v9.Flat.length c17, .int .i64 v9.Full, .int .i64 v9.Gain, .int .i64 v9.Noise] 46 (0, 0))] :: H)) := by
  unfold sensor_Bleed_1 at h
  refine enter Try.func46 rfl (tm := #[.int .i64 i19, .pointer (some ⟨b1, 0, none⟩), .pointer (some ⟨b3, 0, none⟩), undef, undef, undef, undef, undef, undef, undef, undef, undef, undef]) (by kernel_rfl) ?_
  intro B hret hnor hnp
  refine wp_seq_k (fun K20 hK21 => ?_)
  refine wp_region_lit ?_
  refine seqS1 (a' := ⟨#[.int .i64 i19, .pointer (some ⟨b1, 0, none⟩), .pointer (some ⟨b3, 0, none⟩), undef, .int .i64 0, undef, undef, undef, undef, undef, undef, undef, undef], []⟩) (by kernel_rfl) ?_
  refine wpList_nil ?_
  refine hK21 _ _ ?_
  refine wp_seq_k (fun K22 hK23 => ?_)
  refine heldG (S := Sg t f ([(b1, .cells #[.slice A6 v5.length c7] 48 (0, 0))] :: [(b3, .cells #[.int .i64 v9.W, .int .i64 v9.H, .slice A10 v9.Bias.length c11, .slice A13 v9.Dark.length c14, .slice A16 v9.Flat.length c17, .int .i64 v9.Full, .int .i64 v9.Gain, .int .i64 v9.Noise] 46 (0, 0))] :: H) []) (n := 9) (by kernel_rfl) rfl HS ?_
  intro W24 HS25
  refine takeGQ 0 [] rfl (by kernel_rfl) (by kernel_rfl) (by kernel_rfl) (by kernel_rfl) (by kernel_rfl) (by kernel_rfl) hnp (Sg.g0 (Sx.of [] (FM.le.refl _) HS25)) (fun w_ hw_ => by obtain ⟨g_, hl_, hS_⟩ := hw_.st; exact run_load rfl Try.underlying48 rfl (by kernel_rfl : _ = Value.pointer (some ⟨b1, 0, none⟩)) (hS_.cell 0)) ?_
  have hq_ := guard_some h; clear h; obtain ⟨c26, h⟩ := hq_
  have c26 : 0 ≤ i19 := c26
  have hq_ := guard_some h; clear h; obtain ⟨c27, h⟩ := hq_
  have c27 : i19 < (v5.length : Int) := c27
  obtain ⟨b31, of32, cs28, rfl, hr29, hc30⟩ := HR8.at (i := i19) c26 c27
  obtain rfl := hr29
  refine takeG [1] (n := 8) (fuel := 7) (l' := #[true, true, false, false, false, false, false, false, false]) (a' := ⟨#[.int .i64 i19, .pointer (some ⟨b1, 0, none⟩), .pointer (some ⟨b3, 0, none⟩), undef, .int .i64 0, .slice (some ⟨b31, of32, none⟩) v5.length c7, .int .i64 i19, undef, undef, undef, undef, undef, undef], []⟩) rfl (by kernel_rfl) (by kernel_rfl) (by kernel_rfl) hnp (Sg.g0 (Sx.of [] (FM.le.refl _) HS25)) ?_
  refine takeGQ 2 [] rfl (by kernel_rfl) (by kernel_rfl) (by kernel_rfl) (by kernel_rfl) (by kernel_rfl) (by kernel_rfl) hnp (Sg.g0 (Sx.of [] (FM.le.refl _) HS25)) (fun w_ hw_ => by obtain ⟨g_, hl_, hS_⟩ := hw_.st; exact run_index (sz := 1) rfl Try.underlying48 (by kernel_rfl) (by kernel_rfl : _ = Value.slice (some ⟨b31, of32, none⟩) v5.length c7) (by kernel_rfl : _ = Value.int .i64 i19) c26 c27 w_) ?_
  refine takeGQ 3 [] rfl (by kernel_rfl) (by kernel_rfl) (by kernel_rfl) (by kernel_rfl) (by kernel_rfl) (by kernel_rfl) hnp (Sg.g0 (Sx.of [] (FM.le.refl _) HS25)) (fun w_ hw_ => by obtain ⟨g_, hl_, hS_⟩ := hw_.st; exact run_load rfl Try.underlying22 rfl (by kernel_rfl : _ = Value.pointer (some ⟨b31, of32 + (i19 : Int).toNat * 1, none⟩)) ((hc30 hl_ hS_) 0 (by decide))) ?_
  refine takeG [4] (n := 5) (fuel := 4) (l' := #[true, true, true, true, true, false, false, false, false]) (a' := ⟨#[.int .i64 i19, .pointer (some ⟨b1, 0, none⟩), .pointer (some ⟨b3, 0, none⟩), undef, .int .i64 0, .slice (some ⟨b31, of32, none⟩) v5.length c7, .int .i64 i19, .pointer (some ⟨b31, of32 + (i19 : Int).toNat * 1, none⟩), .int .i64 (rd v5 i19), .pointer (some ⟨b3, 5, none⟩), undef, undef, undef], []⟩) rfl (by kernel_rfl) (by kernel_rfl) (by kernel_rfl) hnp (Sg.g0 (Sx.of [] (FM.le.refl _) HS25)) ?_
  refine takeGQ 5 [] rfl (by kernel_rfl) (by kernel_rfl) (by kernel_rfl) (by kernel_rfl) (by kernel_rfl) (by kernel_rfl) hnp (Sg.g0 (Sx.of [] (FM.le.refl _) HS25)) (fun w_ hw_ => by obtain ⟨g_, hl_, hS_⟩ := hw_.st; exact run_load rfl Try.underlying22 rfl (by kernel_rfl : _ = Value.pointer (some ⟨b3, 5, none⟩)) (hS_.u1.cell 5)) ?_
  refine takeG [6, 7, 8] (n := 3) (fuel := 0) (l' := #[true, true, true, true, true, true, true, true, true]) (a' := ⟨#[.int .i64 i19, .pointer (some ⟨b1, 0, none⟩), .pointer (some ⟨b3, 0, none⟩), undef, .int .i64 (mx 0 (w64 ((rd v5 i19) - v9.Full))), .slice (some ⟨b31, of32, none⟩) v5.length c7, .int .i64 i19, .pointer (some ⟨b31, of32 + (i19 : Int).toNat * 1, none⟩), .int .i64 (rd v5 i19), .pointer (some ⟨b3, 5, none⟩), .int .i64 v9.Full, .int .i64 (w64 ((rd v5 i19) - v9.Full)), .int .i64 (mx 0 (w64 ((rd v5 i19) - v9.Full)))], []⟩) rfl (by kernel_rfl) (by kernel_rfl) (by kernel_rfl) hnp (Sg.g0 (Sx.of [] (FM.le.refl _) HS25)) ?_
  refine doneG (by kernel_rfl) ?_ _
  refine hK23 _ _ ?_
  refine wp_ret ?_
  refine hret _ _ ?_
  refine ends_still (v := Value.int .i64 (mx 0 (w64 ((rd v5 i19) - v9.Full)))) (by kernel_rfl) (by kernel_rfl) ?_
  injection h with h
  subst h
  exact ⟨f, rfl, FM.le.refl _, HS25⟩

set_option maxRecDepth 100000 in
set_option maxHeartbeats 4000000 in
theorem sensor_Bleed_2.calls (k : Nat) (b1 : Nat) (b3 : Nat) (A8 : Option Addr) (c9 : Nat) (b5 : Nat) (A12 : Option Addr) (c13 : Nat) (A15 : Option Addr) (c16 : Nat) (A18 : Option Addr) (c19 : Nat) (v7 : List Int) (v11 : S_Sensor) (i21 : Int) {t w : World} {f : FM} {H : List Seg} (HS : St t w f ([(b1, .cells #[.func (.func 46) #[] #[.pointer (some ⟨b3, 0, none⟩), .pointer (some ⟨b5, 0, none⟩)]] 76 (0, 0))] :: [(b3, .cells #[.slice A8 v7.length c9] 48 (0, 0))] :: [(b5, .cells #[.int .i64 v11.W, .int .i64 v11.H, .slice A12 v11.Bias.length c13, .slice A15 v11.Dark.length c16, .slice A18 v11.Flat.length c19, .int .i64 v11.Full, .int .i64 v11.Gain, .int .i64 v11.Noise] 46 (0, 0))] :: H)) (HR10 : SlR (tInt .i64) f A8 c9 v7) (HR14 : SlR (tInt .i64) f A12 c13 v11.Bias) (HR17 : SlR (tInt .i64) f A15 c16 v11.Dark) (HR20 : SlR (tInt .i64) f A18 c19 v11.Flat) (r1 : Int) (h : sensor_Bleed_2 k v7 v11 i21 = some r1) :
    Calls Try.prog 48 #[.int .i64 i21, .pointer (some ⟨b1, 0, none⟩)] w (fun e w' => ∃ (g : FM), e = .returned (Value.int .i64 r1) ∧ FM.le f g ∧ St t w' g ([(b1, .cells #[.func (.func 46) #[] #[.pointer (some ⟨b3, 0, none⟩), .pointer (some ⟨b5, 0, none⟩)]] 76 (0, 0))] :: [(b3, .cells #[.slice A8 v7.length c9] 48 (0, 0))] :: [(b5, .cells #[.int .i64 v11.W, .int .i64 v11.H, .slice A12 v11.Bias.length c13, .slice A15 v11.Dark.length c16, .slice A18 v11.Flat.length c19, .int .i64 v11.Full, .int .i64 v11.Gain, .int .i64 v11.Noise] 46 (0, 0))] :: H)) := by
  unfold sensor_Bleed_2 at h
  refine enter Try.func48 rfl (tm := #[.int .i64 i21, .pointer (some ⟨b1, 0, none⟩), undef, undef, undef, undef, undef, undef, undef]) (by kernel_rfl) ?_
  intro B hret hnor hnp
  refine wp_seq_k (fun K22 hK23 => ?_)
  refine wp_region_lit ?_
  refine seqS1 (a' := ⟨#[.int .i64 i21, .pointer (some ⟨b1, 0, none⟩), undef, .int .i64 0, undef, undef, undef, undef, undef], []⟩) (by kernel_rfl) ?_
  refine wpList_nil ?_
  refine hK23 _ _ ?_
  refine wp_seq_k (fun K24 hK25 => ?_)
  refine wp_region_lit ?_
  refine seqK rfl (does_run (run_load rfl Try.underlying76 rfl (by kernel_rfl : _ = Value.pointer (some ⟨b1, 0, none⟩)) (HS.cell 0)) ?_)
  have HS26 := HS.u2
  have HS27 := HS26.u2
  have hq_ := bind_some h; clear h; obtain ⟨vt28, hc29, h⟩ := hq_
  refine seqL1 (by kernel_rfl) ?_
  refine seqK rfl (does_call (f := 46) (args := #[.int .i64 i21, .pointer (some ⟨b3, 0, none⟩), .pointer (some ⟨b5, 0, none⟩)]) (by kernel_rfl) (sensor_Bleed_1.calls k b3 A8 c9 b5 A12 c13 A15 c16 A18 c19 v7 v11 i21 HS27 HR10 HR14 HR17 HR20 vt28 hc29) ?_)
  rintro _ W32 ⟨f30, rfl, L31, HS33⟩
  refine ⟨_, rfl, ?_⟩
  refine seqS3 (a' := ⟨#[.int .i64 i21, .pointer (some ⟨b1, 0, none⟩), undef, .int .i64 (w64 (Int.tdiv (w64 (vt28 + 1)) 2)), .func (.func 46) #[] #[.pointer (some ⟨b3, 0, none⟩), .pointer (some ⟨b5, 0, none⟩)], .int .i64 i21, .int .i64 vt28, .int .i64 (w64 (vt28 + 1)), .int .i64 (w64 (Int.tdiv (w64 (vt28 + 1)) 2))], []⟩) (by kernel_rfl) ?_
  refine wpList_nil ?_
  refine hK25 _ _ ?_
  refine wp_ret ?_
  refine hret _ _ ?_
  refine ends_still (v := Value.int .i64 (w64 (Int.tdiv (w64 (vt28 + 1)) 2))) (by kernel_rfl) (by kernel_rfl) ?_
  have HS34 := HS33.u1
  have HS35 := HS34.u1
  have HS36 := HS35.u2
  injection h with h
  subst h
  exact ⟨f30, rfl, L31, HS36⟩

set_option maxRecDepth 100000 in
set_option maxHeartbeats 4000000 in
theorem sensor_pour__sensor_Bleed_2.calls (k : Nat) (b1 : Nat) (b3 : Nat) (A8 : Option Addr) (c9 : Nat) (b5 : Nat) (A12 : Option Addr) (c13 : Nat) (A15 : Option Addr) (c16 : Nat) (A18 : Option Addr) (c19 : Nat) (A22 : Option Addr) (c23 : Nat) (A25 : Option Addr) (c26 : Nat) (A28 : Option Addr) (c29 : Nat) (A31 : Option Addr) (c32 : Nat) (s33 : Seg) (A38 : Option Addr) (c39 : Nat) (v7 : List Int) (v11 : S_Sensor) (s21 : S_Sensor) (held35 : List Int) (order37 : List Int) {t w : World} {f : FM} {H : List Seg} (HS : St t w f ([(b1, .cells #[.func (.func 46) #[] #[.pointer (some ⟨b3, 0, none⟩), .pointer (some ⟨b5, 0, none⟩)]] 76 (0, 0))] :: [(b3, .cells #[.slice A8 v7.length c9] 48 (0, 0))] :: [(b5, .cells #[.int .i64 v11.W, .int .i64 v11.H, .slice A12 v11.Bias.length c13, .slice A15 v11.Dark.length c16, .slice A18 v11.Flat.length c19, .int .i64 v11.Full, .int .i64 v11.Gain, .int .i64 v11.Noise] 46 (0, 0))] :: s33 :: H)) (HR10 : SlR (tInt .i64) f A8 c9 v7) (HR14 : SlR (tInt .i64) f A12 c13 v11.Bias) (HR17 : SlR (tInt .i64) f A15 c16 v11.Dark) (HR20 : SlR (tInt .i64) f A18 c19 v11.Flat) (HR24 : SlR (tInt .i64) f A22 c23 s21.Bias) (HR27 : SlR (tInt .i64) f A25 c26 s21.Dark) (HR30 : SlR (tInt .i64) f A28 c29 s21.Flat) (HO34 : Own (tInt .i64) 22 f A31 c32 s33 held35) (HR40 : SlR (tInt .i64) f A38 c39 order37) (r1 : Int) (r2 : List Int) (h : sensor_pour__sensor_Bleed_2 k v7 v11 s21 held35 order37 = some (r1, r2)) :
    Calls Try.prog 47 #[.agg #[.int .i64 s21.W, .int .i64 s21.H, .slice A22 s21.Bias.length c23, .slice A25 s21.Dark.length c26, .slice A28 s21.Flat.length c29, .int .i64 s21.Full, .int .i64 s21.Gain, .int .i64 s21.Noise], .slice A31 held35.length c32, .slice A38 order37.length c39, .func (.func 48) #[] #[.pointer (some ⟨b1, 0, none⟩)]] w (fun e w' => ∃ (g : FM) (s206 : Seg), e = .returned (Value.int .i64 r1) ∧ FM.le f g ∧ St t w' g ([(b1, .cells #[.func (.func 46) #[] #[.pointer (some ⟨b3, 0, none⟩), .pointer (some ⟨b5, 0, none⟩)]] 76 (0, 0))] :: [(b3, .cells #[.slice A8 v7.length c9] 48 (0, 0))] :: [(b5, .cells #[.int .i64 v11.W, .int .i64 v11.H, .slice A12 v11.Bias.length c13, .slice A15 v11.Dark.length c16, .slice A18 v11.Flat.length c19, .int .i64 v11.Full, .int .i64 v11.Gain, .int .i64 v11.Noise] 46 (0, 0))] :: s206 :: H) ∧ Own (tInt .i64) 22 g A31 c32 s206 r2 ∧ r2.length = held35.length) := by
  unfold sensor_pour__sensor_Bleed_2 at h
  refine enter Try.func47 rfl (tm := #[.agg #[.int .i64 s21.W, .int .i64 s21.H, .slice A22 s21.Bias.length c23, .slice A25 s21.Dark.length c26, .slice A28 s21.Flat.length c29, .int .i64 s21.Full, .int .i64 s21.Gain, .int .i64 s21.Noise], .slice A31 held35.length c32, .slice A38 order37.length c39, .func (.func 48) #[] #[.pointer (some ⟨b1, 0, none⟩)], undef, undef, undef, undef, undef, undef, undef, undef, undef, undef, undef, undef, undef, undef, undef, undef, undef, undef, undef, undef, undef, undef, undef, undef, undef, undef, undef, undef, undef, undef, undef, undef, undef, undef, undef, undef, undef, undef, undef, undef]) (by kernel_rfl) ?_
  intro B hret hnor hnp
  refine wp_seq_k (fun K41 hK42 => ?_)
  refine wp_region_lit ?_
  refine seqK rfl (does_box (cs := #[.int .i64 s21.W, .int .i64 s21.H, .slice A22 s21.Bias.length c23, .slice A25 s21.Dark.length c26, .slice A28 s21.Flat.length c29, .int .i64 s21.Full, .int .i64 s21.Gain, .int .i64 s21.Noise]) rfl (by kernel_rfl : _ = Value.agg #[.int .i64 s21.W, .int .i64 s21.H, .slice A22 s21.Bias.length c23, .slice A25 s21.Dark.length c26, .slice A28 s21.Flat.length c29, .int .i64 s21.Full, .int .i64 s21.Gain, .int .i64 s21.Noise]) rfl HS ?_)
  intro b43 W44 HS45
  refine seqS1 (a' := ⟨#[.agg #[.int .i64 s21.W, .int .i64 s21.H, .slice A22 s21.Bias.length c23, .slice A25 s21.Dark.length c26, .slice A28 s21.Flat.length c29, .int .i64 s21.Full, .int .i64 s21.Gain, .int .i64 s21.Noise], .slice A31 held35.length c32, .slice A38 order37.length c39, .func (.func 48) #[] #[.pointer (some ⟨b1, 0, none⟩)], .pointer (some ⟨b43, 0, none⟩), undef, undef, undef, .int .i64 0, undef, undef, undef, undef, undef, undef, undef, undef, undef, undef, undef, undef, undef, undef, undef, undef, undef, undef, undef, undef, undef, undef, undef, undef, undef, undef, undef, undef, undef, undef, undef, undef, undef, undef, undef], []⟩) (by kernel_rfl) ?_
  refine wpList_nil ?_
  refine hK42 _ _ ?_
  refine wp_seq_k (fun K47 hK48 => ?_)
  refine wp_region_lit ?_
  refine seqS1 (a' := ⟨#[.agg #[.int .i64 s21.W, .int .i64 s21.H, .slice A22 s21.Bias.length c23, .slice A25 s21.Dark.length c26, .slice A28 s21.Flat.length c29, .int .i64 s21.Full, .int .i64 s21.Gain, .int .i64 s21.Noise], .slice A31 held35.length c32, .slice A38 order37.length c39, .func (.func 48) #[] #[.pointer (some ⟨b1, 0, none⟩)], .pointer (some ⟨b43, 0, none⟩), undef, undef, undef, .int .i64 0, .int .i64 0, undef, undef, undef, undef, undef, undef, undef, undef, undef, undef, undef, undef, undef, undef, undef, undef, undef, undef, undef, undef, undef, undef, undef, undef, undef, undef, undef, undef, undef, undef, undef, undef, undef, undef], []⟩) (by kernel_rfl) ?_
  refine wpList_nil ?_
  refine hK48 _ _ ?_
  refine wp_seq_k (fun K49 hK50 => ?_)
  refine wp_seq_k (fun K51 hK52 => ?_)
  refine wp_region_lit ?_
  refine seqS3 (a' := ⟨#[.agg #[.int .i64 s21.W, .int .i64 s21.H, .slice A22 s21.Bias.length c23, .slice A25 s21.Dark.length c26, .slice A28 s21.Flat.length c29, .int .i64 s21.Full, .int .i64 s21.Gain, .int .i64 s21.Noise], .slice A31 held35.length c32, .slice A38 order37.length c39, .func (.func 48) #[] #[.pointer (some ⟨b1, 0, none⟩)], .pointer (some ⟨b43, 0, none⟩), undef, undef, undef, .int .i64 0, .int .i64 0, undef, undef, undef, .slice A38 order37.length c39, .int .i64 (order37.length : Int), .int .i64 0, undef, undef, undef, undef, undef, undef, undef, undef, undef, undef, undef, undef, undef, undef, undef, undef, undef, undef, undef, undef, undef, undef, undef, undef, undef, undef, undef, undef], []⟩) (by kernel_rfl) ?_
  refine wpList_nil ?_
  refine hK52 _ _ ?_
  refine blockK (fun B53 hx54 hn55 hr56 ho57 hp58 => ?_)
  have hq_ := bind_some h; clear h; obtain ⟨o120, hv195, h⟩ := hq_
  have J196 : ∀ (f185 : FM) (s191 : Seg) (held190 : List Int) (flow194 : Int) (j189 : Nat → Value) (W187 : World) (a_ : Act), FM.le f f185 → some ((held190, flow194)) = some o120 → St t W187 f185 ([(b43, .cells #[.int .i64 s21.W, .int .i64 s21.H, .slice A22 s21.Bias.length c23, .slice A25 s21.Dark.length c26, .slice A28 s21.Flat.length c29, .int .i64 s21.Full, .int .i64 s21.Gain, .int .i64 s21.Noise] 46 (0, 0))] :: [(b1, .cells #[.func (.func 46) #[] #[.pointer (some ⟨b3, 0, none⟩), .pointer (some ⟨b5, 0, none⟩)]] 76 (0, 0))] :: [(b3, .cells #[.slice A8 v7.length c9] 48 (0, 0))] :: [(b5, .cells #[.int .i64 v11.W, .int .i64 v11.H, .slice A12 v11.Bias.length c13, .slice A15 v11.Dark.length c16, .slice A18 v11.Flat.length c19, .int .i64 v11.Full, .int .i64 v11.Gain, .int .i64 v11.Noise] 46 (0, 0))] :: s191 :: H) → Own (tInt .i64) 22 f185 A31 c32 s191 held190 → held190.length = held35.length → a_ = ⟨#[.agg #[.int .i64 s21.W, .int .i64 s21.H, .slice A22 s21.Bias.length c23, .slice A25 s21.Dark.length c26, .slice A28 s21.Flat.length c29, .int .i64 s21.Full, .int .i64 s21.Gain, .int .i64 s21.Noise], .slice A31 held190.length c32, .slice A38 order37.length c39, .func (.func 48) #[] #[.pointer (some ⟨b1, 0, none⟩)], .pointer (some ⟨b43, 0, none⟩), undef, undef, undef, .int .i64 0, .int .i64 flow194, undef, (j189 0), (j189 1), .slice A38 order37.length c39, .int .i64 (order37.length : Int), (j189 2), (j189 3), (j189 4), (j189 5), (j189 6), (j189 7), (j189 8), (j189 9), (j189 10), (j189 11), (j189 12), (j189 13), (j189 14), (j189 15), (j189 16), (j189 17), (j189 18), (j189 19), (j189 20), (j189 21), (j189 22), (j189 23), (j189 24), (j189 25), (j189 26), (j189 27), (j189 28), (j189 29), undef], []⟩ → K49 a_ W187 := by
    intro f185 s191 held190 flow194 j189 W187 a_ L186 hj197 HS188 HO192 HL193 hfr_; subst hfr_
    injection hj197 with hj197; subst hj197; try dsimp only at h
    refine hK50 _ _ ?_
    refine wp_seq_k (fun K203 hK204 => ?_)
    refine wp_region_lit ?_
    refine seqS2 (a' := ⟨#[.agg #[.int .i64 s21.W, .int .i64 s21.H, .slice A22 s21.Bias.length c23, .slice A25 s21.Dark.length c26, .slice A28 s21.Flat.length c29, .int .i64 s21.Full, .int .i64 s21.Gain, .int .i64 s21.Noise], .slice A31 held190.length c32, .slice A38 order37.length c39, .func (.func 48) #[] #[.pointer (some ⟨b1, 0, none⟩)], .pointer (some ⟨b43, 0, none⟩), undef, undef, undef, .int .i64 flow194, .int .i64 flow194, undef, (j189 0), (j189 1), .slice A38 order37.length c39, .int .i64 (order37.length : Int), (j189 2), (j189 3), (j189 4), (j189 5), (j189 6), (j189 7), (j189 8), (j189 9), (j189 10), (j189 11), (j189 12), (j189 13), (j189 14), (j189 15), (j189 16), (j189 17), (j189 18), (j189 19), (j189 20), (j189 21), (j189 22), (j189 23), (j189 24), (j189 25), (j189 26), (j189 27), (j189 28), (j189 29), .int .i64 flow194], []⟩) (by kernel_rfl) ?_
    refine wpList_nil ?_
    refine hK204 _ _ ?_
    refine wp_ret ?_
    refine hret _ _ ?_
    refine ends_still (v := Value.int .i64 flow194) (by kernel_rfl) (by kernel_rfl) ?_
    have HS205 := HS188.drop
    injection h with h
    injection h with h0_ h
    subst h0_ h
    exact ⟨f185, s191, rfl, L186, HS205, HO192, HL193⟩
  clear h; have h := hv195; clear hv195
  refine loopK (fun n_ a_ w_ => ∃ (f124 : FM) (s130 : Seg) (held129 : List Int) (flow133 : Int) (x134 : Int) (j128 : Nat → Value), FM.le f f124 ∧ St t w_ f124 ([(b43, .cells #[.int .i64 s21.W, .int .i64 s21.H, .slice A22 s21.Bias.length c23, .slice A25 s21.Dark.length c26, .slice A28 s21.Flat.length c29, .int .i64 s21.Full, .int .i64 s21.Gain, .int .i64 s21.Noise] 46 (0, 0))] :: [(b1, .cells #[.func (.func 46) #[] #[.pointer (some ⟨b3, 0, none⟩), .pointer (some ⟨b5, 0, none⟩)]] 76 (0, 0))] :: [(b3, .cells #[.slice A8 v7.length c9] 48 (0, 0))] :: [(b5, .cells #[.int .i64 v11.W, .int .i64 v11.H, .slice A12 v11.Bias.length c13, .slice A15 v11.Dark.length c16, .slice A18 v11.Flat.length c19, .int .i64 v11.Full, .int .i64 v11.Gain, .int .i64 v11.Noise] 46 (0, 0))] :: s130 :: H) ∧ Own (tInt .i64) 22 f124 A31 c32 s130 held129 ∧ held129.length = held35.length ∧ sensor_pour__sensor_Bleed_2.l0 k order37 v7 v11 s21 n_ held129 flow133 x134 = some o120 ∧ a_ = ⟨#[.agg #[.int .i64 s21.W, .int .i64 s21.H, .slice A22 s21.Bias.length c23, .slice A25 s21.Dark.length c26, .slice A28 s21.Flat.length c29, .int .i64 s21.Full, .int .i64 s21.Gain, .int .i64 s21.Noise], .slice A31 held129.length c32, .slice A38 order37.length c39, .func (.func 48) #[] #[.pointer (some ⟨b1, 0, none⟩)], .pointer (some ⟨b43, 0, none⟩), undef, undef, undef, .int .i64 0, .int .i64 flow133, undef, (j128 0), (j128 1), .slice A38 order37.length c39, .int .i64 (order37.length : Int), .int .i64 x134, (j128 2), (j128 3), (j128 4), (j128 5), (j128 6), (j128 7), (j128 8), (j128 9), (j128 10), (j128 11), (j128 12), (j128 13), (j128 14), (j128 15), (j128 16), (j128 17), (j128 18), (j128 19), (j128 20), (j128 21), (j128 22), (j128 23), (j128 24), (j128 25), (j128 26), (j128 27), (j128 28), undef], []⟩) k ⟨f, s33, held35, 0, 0, (fun i_ => [undef, undef, undef, undef, undef, undef, undef, undef, undef, undef, undef, undef, undef, undef, undef, undef, undef, undef, undef, undef, undef, undef, undef, undef, undef, undef, undef, undef, undef].getD i_ undef), (FM.le.refl _), HS45, HO34, rfl, h, (by kernel_rfl)⟩ ?_
  clear h
  rintro n123 _ W126 ⟨f124, s130, held129, flow133, x134, j128, L125, HS127, HO131, HL132, h, rfl⟩ K121 hK122
  obtain _ | n123 := n123
  · exact nomatch h
  simp only [sensor_pour__sensor_Bleed_2.l0] at h
  refine wp_seq_k (fun K135 hK136 => ?_)
  refine wp_region_lit ?_
  refine seqS1 (a' := ⟨#[.agg #[.int .i64 s21.W, .int .i64 s21.H, .slice A22 s21.Bias.length c23, .slice A25 s21.Dark.length c26, .slice A28 s21.Flat.length c29, .int .i64 s21.Full, .int .i64 s21.Gain, .int .i64 s21.Noise], .slice A31 held129.length c32, .slice A38 order37.length c39, .func (.func 48) #[] #[.pointer (some ⟨b1, 0, none⟩)], .pointer (some ⟨b43, 0, none⟩), undef, undef, undef, .int .i64 0, .int .i64 flow133, undef, (j128 0), (j128 1), .slice A38 order37.length c39, .int .i64 (order37.length : Int), .int .i64 x134, .bool (decide (x134 < (order37.length : Int))), (j128 3), (j128 4), (j128 5), (j128 6), (j128 7), (j128 8), (j128 9), (j128 10), (j128 11), (j128 12), (j128 13), (j128 14), (j128 15), (j128 16), (j128 17), (j128 18), (j128 19), (j128 20), (j128 21), (j128 22), (j128 23), (j128 24), (j128 25), (j128 26), (j128 27), (j128 28), undef], []⟩) (by kernel_rfl) ?_
  refine wpList_nil ?_
  refine hK136 _ _ ?_
  refine wp_seq_k (fun K137 hK138 => ?_)
  have hq_ := ite_some h; clear h; rcases hq_ with ⟨c140, h⟩ | ⟨c140, h⟩
  · have c140 : x134 < (order37.length : Int) := c140
    refine wpRwI 16 (x := (decide (x134 < (order37.length : Int)))) (v := true) (by kernel_rfl) (decide_eq_true c140) ?_
    refine condT (by kernel_rfl) ?_
    refine wp_skip ?_
    refine hK138 _ _ ?_
    refine wp_seq_k (fun K141 hK142 => ?_)
    refine blockK (fun B143 hx144 hn145 hr146 ho147 hp148 => ?_)
    refine wp_seq_k (fun K150 hK151 => ?_)
    refine wp_region_lit ?_
    have hq_ := guard_some h; clear h; obtain ⟨c152, h⟩ := hq_
    have c152 : 0 ≤ x134 := c152
    obtain ⟨b156, of157, cs153, rfl, hr154, hc155⟩ := (HR40.mono L125).at (i := x134) c152 c140
    obtain rfl := hr154
    refine seqK rfl (does_run (run_index (sz := 1) rfl Try.underlying40 (by kernel_rfl) (by kernel_rfl : _ = Value.slice (some ⟨b156, of157, none⟩) order37.length c39) (by kernel_rfl : _ = Value.int .i64 x134) c152 c140 W126) ?_)
    refine seqK rfl (does_run (run_load rfl Try.underlying3 rfl (by kernel_rfl : _ = Value.pointer (some ⟨b156, of157 + (x134 : Int).toNat * 1, none⟩)) ((hc155 (FM.le.refl _) HS127) 0 (by decide))) ?_)
    refine seqS1 (a' := ⟨#[.agg #[.int .i64 s21.W, .int .i64 s21.H, .slice A22 s21.Bias.length c23, .slice A25 s21.Dark.length c26, .slice A28 s21.Flat.length c29, .int .i64 s21.Full, .int .i64 s21.Gain, .int .i64 s21.Noise], .slice A31 held129.length c32, .slice (some ⟨b156, of157, none⟩) order37.length c39, .func (.func 48) #[] #[.pointer (some ⟨b1, 0, none⟩)], .pointer (some ⟨b43, 0, none⟩), undef, undef, undef, .int .i64 0, .int .i64 flow133, undef, .int .i64 (rd order37 x134), (j128 1), .slice (some ⟨b156, of157, none⟩) order37.length c39, .int .i64 (order37.length : Int), .int .i64 x134, .bool true, .pointer (some ⟨b156, of157 + (x134 : Int).toNat * 1, none⟩), .int .i64 (rd order37 x134), (j128 5), (j128 6), (j128 7), (j128 8), (j128 9), (j128 10), (j128 11), (j128 12), (j128 13), (j128 14), (j128 15), (j128 16), (j128 17), (j128 18), (j128 19), (j128 20), (j128 21), (j128 22), (j128 23), (j128 24), (j128 25), (j128 26), (j128 27), (j128 28), undef], []⟩) (by kernel_rfl) ?_
    refine wpList_nil ?_
    refine hK151 _ _ ?_
    refine wp_seq_k (fun K158 hK159 => ?_)
    refine heldG (S := Sg t f124 ([(b43, .cells #[.int .i64 s21.W, .int .i64 s21.H, .slice A22 s21.Bias.length c23, .slice A25 s21.Dark.length c26, .slice A28 s21.Flat.length c29, .int .i64 s21.Full, .int .i64 s21.Gain, .int .i64 s21.Noise] 46 (0, 0))] :: [(b1, .cells #[.func (.func 46) #[] #[.pointer (some ⟨b3, 0, none⟩), .pointer (some ⟨b5, 0, none⟩)]] 76 (0, 0))] :: [(b3, .cells #[.slice A8 v7.length c9] 48 (0, 0))] :: [(b5, .cells #[.int .i64 v11.W, .int .i64 v11.H, .slice A12 v11.Bias.length c13, .slice A15 v11.Dark.length c16, .slice A18 v11.Flat.length c19, .int .i64 v11.Full, .int .i64 v11.Gain, .int .i64 v11.Noise] 46 (0, 0))] :: s130 :: H) []) (n := 10) (by kernel_rfl) rfl HS127 ?_
    intro W160 HS161
    refine takeG [0, 1] (n := 10) (fuel := 8) (l' := #[true, true, false, false, false, false, false, false, false, false]) (a' := ⟨#[.agg #[.int .i64 s21.W, .int .i64 s21.H, .slice A22 s21.Bias.length c23, .slice A25 s21.Dark.length c26, .slice A28 s21.Flat.length c29, .int .i64 s21.Full, .int .i64 s21.Gain, .int .i64 s21.Noise], .slice A31 held129.length c32, .slice (some ⟨b156, of157, none⟩) order37.length c39, .func (.func 48) #[] #[.pointer (some ⟨b1, 0, none⟩)], .pointer (some ⟨b43, 0, none⟩), undef, undef, undef, .int .i64 0, .int .i64 flow133, undef, .int .i64 (rd order37 x134), (j128 1), .slice (some ⟨b156, of157, none⟩) order37.length c39, .int .i64 (order37.length : Int), .int .i64 x134, .bool true, .pointer (some ⟨b156, of157 + (x134 : Int).toNat * 1, none⟩), .int .i64 (rd order37 x134), .int .i64 flow133, .pointer (some ⟨b43, 5, none⟩), (j128 7), (j128 8), (j128 9), (j128 10), (j128 11), (j128 12), (j128 13), (j128 14), (j128 15), (j128 16), (j128 17), (j128 18), (j128 19), (j128 20), (j128 21), (j128 22), (j128 23), (j128 24), (j128 25), (j128 26), (j128 27), (j128 28), undef], []⟩) rfl (by kernel_rfl) (by kernel_rfl) (by kernel_rfl) (fun ch_ a_ w_ q_ => (fun ch_ a_ w_ q_ => hnp ch_ a_ w_ (hp58 ch_ a_ w_ q_)) ch_ a_ w_ (hp148 ch_ a_ w_ q_)) (Sg.g0 (Sx.of [] (FM.le.refl _) HS161)) ?_
    refine takeGQ 2 [] rfl (by kernel_rfl) (by kernel_rfl) (by kernel_rfl) (by kernel_rfl) (by kernel_rfl) (by kernel_rfl) (fun ch_ a_ w_ q_ => (fun ch_ a_ w_ q_ => hnp ch_ a_ w_ (hp58 ch_ a_ w_ q_)) ch_ a_ w_ (hp148 ch_ a_ w_ q_)) (Sg.g0 (Sx.of [] (FM.le.refl _) HS161)) (fun w_ hw_ => by obtain ⟨g_, hl_, hS_⟩ := hw_.st; exact run_load rfl Try.underlying22 rfl (by kernel_rfl : _ = Value.pointer (some ⟨b43, 5, none⟩)) (hS_.cell 5)) ?_
    have hq_ := guard_some h; clear h; obtain ⟨c162, h⟩ := hq_
    have c162 : 0 ≤ (rd order37 x134) := c162
    have hq_ := guard_some h; clear h; obtain ⟨c163, h⟩ := hq_
    have c163 : (rd order37 x134) < (held129.length : Int) := c163
    obtain ⟨b167, of168, cs164, rfl, hr165, hc166⟩ := HO131.at (i := (rd order37 x134)) c162 c163
    obtain rfl := hr165
    refine takeG [3, 4] (n := 7) (fuel := 5) (l' := #[true, true, true, true, true, false, false, false, false, false]) (a' := ⟨#[.agg #[.int .i64 s21.W, .int .i64 s21.H, .slice A22 s21.Bias.length c23, .slice A25 s21.Dark.length c26, .slice A28 s21.Flat.length c29, .int .i64 s21.Full, .int .i64 s21.Gain, .int .i64 s21.Noise], .slice (some ⟨b167, of168, none⟩) held129.length c32, .slice (some ⟨b156, of157, none⟩) order37.length c39, .func (.func 48) #[] #[.pointer (some ⟨b1, 0, none⟩)], .pointer (some ⟨b43, 0, none⟩), undef, undef, undef, .int .i64 0, .int .i64 flow133, undef, .int .i64 (rd order37 x134), (j128 1), .slice (some ⟨b156, of157, none⟩) order37.length c39, .int .i64 (order37.length : Int), .int .i64 x134, .bool true, .pointer (some ⟨b156, of157 + (x134 : Int).toNat * 1, none⟩), .int .i64 (rd order37 x134), .int .i64 flow133, .pointer (some ⟨b43, 5, none⟩), .int .i64 s21.Full, .slice (some ⟨b167, of168, none⟩) held129.length c32, .int .i64 (rd order37 x134), (j128 10), (j128 11), (j128 12), (j128 13), (j128 14), (j128 15), (j128 16), (j128 17), (j128 18), (j128 19), (j128 20), (j128 21), (j128 22), (j128 23), (j128 24), (j128 25), (j128 26), (j128 27), (j128 28), undef], []⟩) rfl (by kernel_rfl) (by kernel_rfl) (by kernel_rfl) (fun ch_ a_ w_ q_ => (fun ch_ a_ w_ q_ => hnp ch_ a_ w_ (hp58 ch_ a_ w_ q_)) ch_ a_ w_ (hp148 ch_ a_ w_ q_)) (Sg.g0 (Sx.of [] (FM.le.refl _) HS161)) ?_
    refine takeGQ 5 [] rfl (by kernel_rfl) (by kernel_rfl) (by kernel_rfl) (by kernel_rfl) (by kernel_rfl) (by kernel_rfl) (fun ch_ a_ w_ q_ => (fun ch_ a_ w_ q_ => hnp ch_ a_ w_ (hp58 ch_ a_ w_ q_)) ch_ a_ w_ (hp148 ch_ a_ w_ q_)) (Sg.g0 (Sx.of [] (FM.le.refl _) HS161)) (fun w_ hw_ => by obtain ⟨g_, hl_, hS_⟩ := hw_.st; exact run_index (sz := 1) rfl Try.underlying48 (by kernel_rfl) (by kernel_rfl : _ = Value.slice (some ⟨b167, of168, none⟩) held129.length c32) (by kernel_rfl : _ = Value.int .i64 (rd order37 x134)) c162 c163 w_) ?_
    refine takeGQ 6 [] rfl (by kernel_rfl) (by kernel_rfl) (by kernel_rfl) (by kernel_rfl) (by kernel_rfl) (by kernel_rfl) (fun ch_ a_ w_ q_ => (fun ch_ a_ w_ q_ => hnp ch_ a_ w_ (hp58 ch_ a_ w_ q_)) ch_ a_ w_ (hp148 ch_ a_ w_ q_)) (Sg.g0 (Sx.of [] (FM.le.refl _) HS161)) (fun w_ hw_ => by obtain ⟨g_, hl_, hS_⟩ := hw_.st; exact run_load rfl Try.underlying22 rfl (by kernel_rfl : _ = Value.pointer (some ⟨b167, of168 + ((rd order37 x134) : Int).toNat * 1, none⟩)) ((hc166 hS_.u4) 0 (by decide))) ?_
    refine takeG [7, 8, 9] (n := 3) (fuel := 0) (l' := #[true, true, true, true, true, true, true, true, true, true]) (a' := ⟨#[.agg #[.int .i64 s21.W, .int .i64 s21.H, .slice A22 s21.Bias.length c23, .slice A25 s21.Dark.length c26, .slice A28 s21.Flat.length c29, .int .i64 s21.Full, .int .i64 s21.Gain, .int .i64 s21.Noise], .slice (some ⟨b167, of168, none⟩) held129.length c32, .slice (some ⟨b156, of157, none⟩) order37.length c39, .func (.func 48) #[] #[.pointer (some ⟨b1, 0, none⟩)], .pointer (some ⟨b43, 0, none⟩), undef, undef, undef, .int .i64 0, .int .i64 flow133, undef, .int .i64 (rd order37 x134), .int .i64 (mn flow133 (w64 (s21.Full - (rd held129 (rd order37 x134))))), .slice (some ⟨b156, of157, none⟩) order37.length c39, .int .i64 (order37.length : Int), .int .i64 x134, .bool true, .pointer (some ⟨b156, of157 + (x134 : Int).toNat * 1, none⟩), .int .i64 (rd order37 x134), .int .i64 flow133, .pointer (some ⟨b43, 5, none⟩), .int .i64 s21.Full, .slice (some ⟨b167, of168, none⟩) held129.length c32, .int .i64 (rd order37 x134), .pointer (some ⟨b167, of168 + ((rd order37 x134) : Int).toNat * 1, none⟩), .int .i64 (rd held129 (rd order37 x134)), .int .i64 (w64 (s21.Full - (rd held129 (rd order37 x134)))), .int .i64 (mn flow133 (w64 (s21.Full - (rd held129 (rd order37 x134))))), (j128 14), (j128 15), (j128 16), (j128 17), (j128 18), (j128 19), (j128 20), (j128 21), (j128 22), (j128 23), (j128 24), (j128 25), (j128 26), (j128 27), (j128 28), undef], []⟩) rfl (by kernel_rfl) (by kernel_rfl) (by kernel_rfl) (fun ch_ a_ w_ q_ => (fun ch_ a_ w_ q_ => hnp ch_ a_ w_ (hp58 ch_ a_ w_ q_)) ch_ a_ w_ (hp148 ch_ a_ w_ q_)) (Sg.g0 (Sx.of [] (FM.le.refl _) HS161)) ?_
    refine doneG (by kernel_rfl) ?_ _
    refine hK159 _ _ ?_
    refine wp_seq_k (fun K169 hK170 => ?_)
    refine wp_region_lit ?_
    refine seqL2 (by kernel_rfl) ?_
    refine seqK rfl (does_run (run_index (sz := 1) rfl Try.underlying48 (by kernel_rfl) (by kernel_rfl : _ = Value.slice (some ⟨b167, of168, none⟩) held129.length c32) (by kernel_rfl : _ = Value.int .i64 (rd order37 x134)) c162 c163 W160) ?_)
    refine seqK rfl (does_run (run_load rfl Try.underlying22 rfl (by kernel_rfl : _ = Value.pointer (some ⟨b167, of168 + ((rd order37 x134) : Int).toNat * 1, none⟩)) ((hc166 HS161.u4) 0 (by decide))) ?_)
    refine seqL2 (by kernel_rfl) ?_
    refine seqK rfl (does_run (run_index (sz := 1) rfl Try.underlying48 (by kernel_rfl) (by kernel_rfl : _ = Value.slice (some ⟨b167, of168, none⟩) held129.length c32) (by kernel_rfl : _ = Value.int .i64 (rd order37 x134)) c162 c163 W160) ?_)
    have HS171 := HS161.u4
    refine seqK rfl (does_put (e := (tInt .i64)) (E := 22) (vs := [.int .i64 (w64 ((rd held129 (rd order37 x134)) + (mn flow133 (w64 (s21.Full - (rd held129 (rd order37 x134)))))))]) (u := w64 ((rd held129 (rd order37 x134)) + (mn flow133 (w64 (s21.Full - (rd held129 (rd order37 x134))))))) (i := (rd order37 x134)) rfl (by kernel_rfl) HO131 HS171 rfl (by kernel_rfl : _ = Value.pointer (some ⟨b167, of168 + ((rd order37 x134) : Int).toNat * 1, none⟩)) (by kernel_rfl : _ = Value.int .i64 (w64 ((rd held129 (rd order37 x134)) + (mn flow133 (w64 (s21.Full - (rd held129 (rd order37 x134)))))))) rfl rfl c162 c163 ?_)
    intro W172 s173 HS174 HO175
    refine seqRwS 1 (A := (some ⟨b167, of168, none⟩)) (m := held129.length) (n := (held129.set ((rd order37 x134)).toNat (w64 ((rd held129 (rd order37 x134)) + (mn flow133 (w64 (s21.Full - (rd held129 (rd order37 x134)))))))).length) (c := c32) (by kernel_rfl) (List.length_set).symm ?_
    refine seqRwS 22 (A := (some ⟨b167, of168, none⟩)) (m := held129.length) (n := (held129.set ((rd order37 x134)).toNat (w64 ((rd held129 (rd order37 x134)) + (mn flow133 (w64 (s21.Full - (rd held129 (rd order37 x134)))))))).length) (c := c32) (by kernel_rfl) (List.length_set).symm ?_
    refine seqRwS 28 (A := (some ⟨b167, of168, none⟩)) (m := held129.length) (n := (held129.set ((rd order37 x134)).toNat (w64 ((rd held129 (rd order37 x134)) + (mn flow133 (w64 (s21.Full - (rd held129 (rd order37 x134)))))))).length) (c := c32) (by kernel_rfl) (List.length_set).symm ?_
    refine wpList_nil ?_
    refine hK170 _ _ ?_
    refine wp_region_lit ?_
    have HS176 := HS174.u4
    have HS177 := HS176.u4
    have HS178 := HS177.u4
    have hq_ := bind_some h; clear h; obtain ⟨vt179, hc180, h⟩ := hq_
    refine seqL3 (by kernel_rfl) ?_
    refine seqK rfl (does_call (f := 48) (args := #[.int .i64 (rd order37 x134), .pointer (some ⟨b1, 0, none⟩)]) (by kernel_rfl) (sensor_Bleed_2.calls k b1 b3 A8 c9 b5 A12 c13 A15 c16 A18 c19 v7 v11 (rd order37 x134) HS178 (HR10.mono L125) (HR14.mono L125) (HR17.mono L125) (HR20.mono L125) vt179 hc180) ?_)
    rintro _ W183 ⟨f181, rfl, L182, HS184⟩
    refine ⟨_, rfl, ?_⟩
    refine seqS4 (a' := ⟨#[.agg #[.int .i64 s21.W, .int .i64 s21.H, .slice A22 s21.Bias.length c23, .slice A25 s21.Dark.length c26, .slice A28 s21.Flat.length c29, .int .i64 s21.Full, .int .i64 s21.Gain, .int .i64 s21.Noise], .slice (some ⟨b167, of168, none⟩) (held129.set ((rd order37 x134)).toNat (w64 ((rd held129 (rd order37 x134)) + (mn flow133 (w64 (s21.Full - (rd held129 (rd order37 x134)))))))).length c32, .slice (some ⟨b156, of157, none⟩) order37.length c39, .func (.func 48) #[] #[.pointer (some ⟨b1, 0, none⟩)], .pointer (some ⟨b43, 0, none⟩), undef, undef, undef, .int .i64 0, .int .i64 (w64 (flow133 + (w64 (vt179 - (mn flow133 (w64 (s21.Full - (rd held129 (rd order37 x134))))))))), undef, .int .i64 (rd order37 x134), .int .i64 (mn flow133 (w64 (s21.Full - (rd held129 (rd order37 x134))))), .slice (some ⟨b156, of157, none⟩) order37.length c39, .int .i64 (order37.length : Int), .int .i64 x134, .bool true, .pointer (some ⟨b156, of157 + (x134 : Int).toNat * 1, none⟩), .int .i64 (rd order37 x134), .int .i64 flow133, .pointer (some ⟨b43, 5, none⟩), .int .i64 s21.Full, .slice (some ⟨b167, of168, none⟩) (held129.set ((rd order37 x134)).toNat (w64 ((rd held129 (rd order37 x134)) + (mn flow133 (w64 (s21.Full - (rd held129 (rd order37 x134)))))))).length c32, .int .i64 (rd order37 x134), .pointer (some ⟨b167, of168 + ((rd order37 x134) : Int).toNat * 1, none⟩), .int .i64 (rd held129 (rd order37 x134)), .int .i64 (w64 (s21.Full - (rd held129 (rd order37 x134)))), .int .i64 (mn flow133 (w64 (s21.Full - (rd held129 (rd order37 x134))))), .slice (some ⟨b167, of168, none⟩) (held129.set ((rd order37 x134)).toNat (w64 ((rd held129 (rd order37 x134)) + (mn flow133 (w64 (s21.Full - (rd held129 (rd order37 x134)))))))).length c32, .int .i64 (rd order37 x134), .pointer (some ⟨b167, of168 + ((rd order37 x134) : Int).toNat * 1, none⟩), .int .i64 (rd held129 (rd order37 x134)), .int .i64 (mn flow133 (w64 (s21.Full - (rd held129 (rd order37 x134))))), .int .i64 (w64 ((rd held129 (rd order37 x134)) + (mn flow133 (w64 (s21.Full - (rd held129 (rd order37 x134))))))), .pointer (some ⟨b167, of168 + ((rd order37 x134) : Int).toNat * 1, none⟩), .int .i64 flow133, .func (.func 48) #[] #[.pointer (some ⟨b1, 0, none⟩)], .int .i64 (rd order37 x134), .int .i64 vt179, .int .i64 (mn flow133 (w64 (s21.Full - (rd held129 (rd order37 x134))))), .int .i64 (w64 (vt179 - (mn flow133 (w64 (s21.Full - (rd held129 (rd order37 x134))))))), .int .i64 (w64 (flow133 + (w64 (vt179 - (mn flow133 (w64 (s21.Full - (rd held129 (rd order37 x134))))))))), (j128 28), undef], []⟩) (by kernel_rfl) ?_
    refine wpList_nil ?_
    refine hn145 _ _ ?_
    refine hK142 _ _ ?_
    refine wp_region_lit ?_
    refine seqS2 (a' := ⟨#[.agg #[.int .i64 s21.W, .int .i64 s21.H, .slice A22 s21.Bias.length c23, .slice A25 s21.Dark.length c26, .slice A28 s21.Flat.length c29, .int .i64 s21.Full, .int .i64 s21.Gain, .int .i64 s21.Noise], .slice (some ⟨b167, of168, none⟩) (held129.set ((rd order37 x134)).toNat (w64 ((rd held129 (rd order37 x134)) + (mn flow133 (w64 (s21.Full - (rd held129 (rd order37 x134)))))))).length c32, .slice (some ⟨b156, of157, none⟩) order37.length c39, .func (.func 48) #[] #[.pointer (some ⟨b1, 0, none⟩)], .pointer (some ⟨b43, 0, none⟩), undef, undef, undef, .int .i64 0, .int .i64 (w64 (flow133 + (w64 (vt179 - (mn flow133 (w64 (s21.Full - (rd held129 (rd order37 x134))))))))), undef, .int .i64 (rd order37 x134), .int .i64 (mn flow133 (w64 (s21.Full - (rd held129 (rd order37 x134))))), .slice (some ⟨b156, of157, none⟩) order37.length c39, .int .i64 (order37.length : Int), .int .i64 (w64 (x134 + 1)), .bool true, .pointer (some ⟨b156, of157 + (x134 : Int).toNat * 1, none⟩), .int .i64 (rd order37 x134), .int .i64 flow133, .pointer (some ⟨b43, 5, none⟩), .int .i64 s21.Full, .slice (some ⟨b167, of168, none⟩) (held129.set ((rd order37 x134)).toNat (w64 ((rd held129 (rd order37 x134)) + (mn flow133 (w64 (s21.Full - (rd held129 (rd order37 x134)))))))).length c32, .int .i64 (rd order37 x134), .pointer (some ⟨b167, of168 + ((rd order37 x134) : Int).toNat * 1, none⟩), .int .i64 (rd held129 (rd order37 x134)), .int .i64 (w64 (s21.Full - (rd held129 (rd order37 x134)))), .int .i64 (mn flow133 (w64 (s21.Full - (rd held129 (rd order37 x134))))), .slice (some ⟨b167, of168, none⟩) (held129.set ((rd order37 x134)).toNat (w64 ((rd held129 (rd order37 x134)) + (mn flow133 (w64 (s21.Full - (rd held129 (rd order37 x134)))))))).length c32, .int .i64 (rd order37 x134), .pointer (some ⟨b167, of168 + ((rd order37 x134) : Int).toNat * 1, none⟩), .int .i64 (rd held129 (rd order37 x134)), .int .i64 (mn flow133 (w64 (s21.Full - (rd held129 (rd order37 x134))))), .int .i64 (w64 ((rd held129 (rd order37 x134)) + (mn flow133 (w64 (s21.Full - (rd held129 (rd order37 x134))))))), .pointer (some ⟨b167, of168 + ((rd order37 x134) : Int).toNat * 1, none⟩), .int .i64 flow133, .func (.func 48) #[] #[.pointer (some ⟨b1, 0, none⟩)], .int .i64 (rd order37 x134), .int .i64 vt179, .int .i64 (mn flow133 (w64 (s21.Full - (rd held129 (rd order37 x134))))), .int .i64 (w64 (vt179 - (mn flow133 (w64 (s21.Full - (rd held129 (rd order37 x134))))))), .int .i64 (w64 (flow133 + (w64 (vt179 - (mn flow133 (w64 (s21.Full - (rd held129 (rd order37 x134))))))))), .int .i64 (w64 (x134 + 1)), undef], []⟩) (by kernel_rfl) ?_
    refine wpList_nil ?_
    refine hK122 n123 _ _ (Nat.lt_succ_self _) ?_
    have HS198 := HS184.u3
    have HS199 := HS198.u3
    have HS200 := HS199.u3
    have HS201 := HS200.u3
    have HS202 := HS201.u4
    exact ⟨f181, s173, (held129.set ((rd order37 x134)).toNat (w64 ((rd held129 (rd order37 x134)) + (mn flow133 (w64 (s21.Full - (rd held129 (rd order37 x134)))))))), (w64 (flow133 + (w64 (vt179 - (mn flow133 (w64 (s21.Full - (rd held129 (rd order37 x134))))))))), (w64 (x134 + 1)), (fun i_ => [Value.int .i64 (rd order37 x134), Value.int .i64 (mn flow133 (w64 (s21.Full - (rd held129 (rd order37 x134))))), Value.bool true, Value.pointer (some ⟨b156, of157 + (x134 : Int).toNat * 1, none⟩), Value.int .i64 (rd order37 x134), Value.int .i64 flow133, Value.pointer (some ⟨b43, 5, none⟩), Value.int .i64 s21.Full, Value.slice (some ⟨b167, of168, none⟩) (held129.set ((rd order37 x134)).toNat (w64 ((rd held129 (rd order37 x134)) + (mn flow133 (w64 (s21.Full - (rd held129 (rd order37 x134)))))))).length c32, Value.int .i64 (rd order37 x134), Value.pointer (some ⟨b167, of168 + ((rd order37 x134) : Int).toNat * 1, none⟩), Value.int .i64 (rd held129 (rd order37 x134)), Value.int .i64 (w64 (s21.Full - (rd held129 (rd order37 x134)))), Value.int .i64 (mn flow133 (w64 (s21.Full - (rd held129 (rd order37 x134))))), Value.slice (some ⟨b167, of168, none⟩) (held129.set ((rd order37 x134)).toNat (w64 ((rd held129 (rd order37 x134)) + (mn flow133 (w64 (s21.Full - (rd held129 (rd order37 x134)))))))).length c32, Value.int .i64 (rd order37 x134), Value.pointer (some ⟨b167, of168 + ((rd order37 x134) : Int).toNat * 1, none⟩), Value.int .i64 (rd held129 (rd order37 x134)), Value.int .i64 (mn flow133 (w64 (s21.Full - (rd held129 (rd order37 x134))))), Value.int .i64 (w64 ((rd held129 (rd order37 x134)) + (mn flow133 (w64 (s21.Full - (rd held129 (rd order37 x134))))))), Value.pointer (some ⟨b167, of168 + ((rd order37 x134) : Int).toNat * 1, none⟩), Value.int .i64 flow133, Value.func (.func 48) #[] #[.pointer (some ⟨b1, 0, none⟩)], Value.int .i64 (rd order37 x134), Value.int .i64 vt179, Value.int .i64 (mn flow133 (w64 (s21.Full - (rd held129 (rd order37 x134))))), Value.int .i64 (w64 (vt179 - (mn flow133 (w64 (s21.Full - (rd held129 (rd order37 x134))))))), Value.int .i64 (w64 (flow133 + (w64 (vt179 - (mn flow133 (w64 (s21.Full - (rd held129 (rd order37 x134))))))))), Value.int .i64 (w64 (x134 + 1))].getD i_ undef), (L125.trans L182), HS202, (HO175.mono L182), (List.length_set.trans HL132), h, (by kernel_rfl)⟩
  · have c140 : ¬ (x134 < (order37.length : Int)) := c140
    refine wpRwI 16 (x := (decide (x134 < (order37.length : Int)))) (v := false) (by kernel_rfl) (decide_eq_false c140) ?_
    refine condF (by kernel_rfl) ?_
    refine wp_exit ?_
    refine hx54 _ _ ?_
    exact J196 f124 s130 held129 flow133 (fun i_ => [(j128 0), (j128 1), Value.int .i64 x134, Value.bool false, (j128 3), (j128 4), (j128 5), (j128 6), (j128 7), (j128 8), (j128 9), (j128 10), (j128 11), (j128 12), (j128 13), (j128 14), (j128 15), (j128 16), (j128 17), (j128 18), (j128 19), (j128 20), (j128 21), (j128 22), (j128 23), (j128 24), (j128 25), (j128 26), (j128 27), (j128 28)].getD i_ undef) W126 _ L125 h HS127 HO131 HL132 (by kernel_rfl)

set_option maxRecDepth 100000 in
set_option maxHeartbeats 4000000 in
theorem slices_Reverse_int.calls (k : Nat) (A1 : Option Addr) (c2 : Nat) (s3 : Seg) (s5 : List Int) {t w : World} {f : FM} {H : List Seg} (HS : St t w f (s3 :: H)) (HO4 : Own (tInt .i64) 3 f A1 c2 s3 s5) (r1 : List Int) (h : slices_Reverse_int k s5 = some r1) :
    Calls Try.prog 49 #[.slice A1 s5.length c2] w (fun e w' => ∃ (g : FM) (s135 : Seg), e = .returned (Value.tuple #[]) ∧ FM.le f g ∧ St t w' g (s135 :: H) ∧ Own (tInt .i64) 3 g A1 c2 s135 r1 ∧ r1.length = s5.length) := by
  unfold slices_Reverse_int at h
  refine enter Try.func49 rfl (tm := #[.slice A1 s5.length c2, undef, undef, undef, undef, undef, undef, undef, undef, undef, undef, undef, undef, undef, undef, undef, undef, undef, undef, undef, undef, undef, undef, undef, undef, undef, undef, undef]) (by kernel_rfl) ?_
  intro B hret hnor hnp
  refine wp_seq_k (fun K7 hK8 => ?_)
  refine wp_region_lit ?_
  refine seqS5 (a' := ⟨#[.slice A1 s5.length c2, undef, .int .i64 0, .int .i64 (w64 ((s5.length : Int) - 1)), .slice A1 s5.length c2, .int .i64 (s5.length : Int), .int .i64 (w64 ((s5.length : Int) - 1)), undef, undef, undef, undef, undef, undef, undef, undef, undef, undef, undef, undef, undef, undef, undef, undef, undef, undef, undef, undef, undef], []⟩) (by kernel_rfl) ?_
  refine wpList_nil ?_
  refine hK8 _ _ ?_
  refine blockK (fun B9 hx10 hn11 hr12 ho13 hp14 => ?_)
  have hq_ := bind_some h; clear h; obtain ⟨o67, hv132, h⟩ := hq_
  have J133 : ∀ (f123 : FM) (s129 : Seg) (s128 : List Int) (j127 : Nat → Value) (W125 : World) (a_ : Act), FM.le f f123 → some (s128) = some o67 → St t W125 f123 (s129 :: H) → Own (tInt .i64) 3 f123 A1 c2 s129 s128 → s128.length = s5.length → a_ = ⟨#[.slice A1 s128.length c2, undef, (j127 0), (j127 1), .slice A1 s5.length c2, .int .i64 (s5.length : Int), .int .i64 (w64 ((s5.length : Int) - 1)), (j127 2), (j127 3), (j127 4), (j127 5), (j127 6), (j127 7), (j127 8), (j127 9), (j127 10), (j127 11), (j127 12), (j127 13), (j127 14), (j127 15), (j127 16), (j127 17), (j127 18), (j127 19), (j127 20), (j127 21), (j127 22)], []⟩ → B Exit.normal a_ W125 := by
    intro f123 s129 s128 j127 W125 a_ L124 hj134 HS126 HO130 HL131 hfr_; subst hfr_
    injection hj134 with hj134; subst hj134; try dsimp only at h
    refine hnor _ _ ?_
    refine ends_still (v := Value.tuple #[]) (by kernel_rfl) (by kernel_rfl) ?_
    injection h with h
    subst h
    exact ⟨f123, s129, rfl, L124, HS126, HO130, HL131⟩
  clear h; have h := hv132; clear hv132
  refine loopK (fun n_ a_ w_ => ∃ (f71 : FM) (s77 : Seg) (s76 : List Int) (i80 : Int) (j81 : Int) (j75 : Nat → Value), FM.le f f71 ∧ St t w_ f71 (s77 :: H) ∧ Own (tInt .i64) 3 f71 A1 c2 s77 s76 ∧ s76.length = s5.length ∧ slices_Reverse_int.l0 k n_ s76 i80 j81 = some o67 ∧ a_ = ⟨#[.slice A1 s76.length c2, undef, .int .i64 i80, .int .i64 j81, .slice A1 s5.length c2, .int .i64 (s5.length : Int), .int .i64 (w64 ((s5.length : Int) - 1)), (j75 0), (j75 1), (j75 2), (j75 3), (j75 4), (j75 5), (j75 6), (j75 7), (j75 8), (j75 9), (j75 10), (j75 11), (j75 12), (j75 13), (j75 14), (j75 15), (j75 16), (j75 17), (j75 18), (j75 19), (j75 20)], []⟩) k ⟨f, s3, s5, 0, (w64 ((s5.length : Int) - 1)), (fun i_ => [undef, undef, undef, undef, undef, undef, undef, undef, undef, undef, undef, undef, undef, undef, undef, undef, undef, undef, undef, undef, undef].getD i_ undef), (FM.le.refl _), HS, HO4, rfl, h, (by kernel_rfl)⟩ ?_
  clear h
  rintro n70 _ W73 ⟨f71, s77, s76, i80, j81, j75, L72, HS74, HO78, HL79, h, rfl⟩ K68 hK69
  obtain _ | n70 := n70
  · exact nomatch h
  simp only [slices_Reverse_int.l0] at h
  refine wp_seq_k (fun K82 hK83 => ?_)
  refine wp_seq_k (fun K84 hK85 => ?_)
  refine wp_region_lit ?_
  refine seqS3 (a' := ⟨#[.slice A1 s76.length c2, undef, .int .i64 i80, .int .i64 j81, .slice A1 s5.length c2, .int .i64 (s5.length : Int), .int .i64 (w64 ((s5.length : Int) - 1)), .int .i64 i80, .int .i64 j81, .bool (decide (i80 < j81)), (j75 3), (j75 4), (j75 5), (j75 6), (j75 7), (j75 8), (j75 9), (j75 10), (j75 11), (j75 12), (j75 13), (j75 14), (j75 15), (j75 16), (j75 17), (j75 18), (j75 19), (j75 20)], []⟩) (by kernel_rfl) ?_
  refine wpList_nil ?_
  refine hK85 _ _ ?_
  have hq_ := ite_some h; clear h; rcases hq_ with ⟨c87, h⟩ | ⟨c87, h⟩
  · have c87 : i80 < j81 := c87
    refine wpRwI 9 (x := (decide (i80 < j81))) (v := true) (by kernel_rfl) (decide_eq_true c87) ?_
    refine condT (by kernel_rfl) ?_
    refine wp_skip ?_
    refine hK83 _ _ ?_
    refine wp_seq_k (fun K88 hK89 => ?_)
    refine blockK (fun B90 hx91 hn92 hr93 ho94 hp95 => ?_)
    refine heldG (S := Sg t f71 (H) [(13, s77)]) (n := 16) (by kernel_rfl) rfl HS74 ?_
    intro W97 HS98
    have hq_ := guard_some h; clear h; obtain ⟨c99, h⟩ := hq_
    have c99 : 0 ≤ j81 := c99
    have hq_ := guard_some h; clear h; obtain ⟨c100, h⟩ := hq_
    have c100 : j81 < (s76.length : Int) := c100
    obtain ⟨b104, of105, cs101, rfl, hr102, hc103⟩ := HO78.at (i := j81) c99 c100
    obtain rfl := hr102
    refine takeG [0, 1, 2, 3, 4, 5] (n := 16) (fuel := 10) (l' := #[true, true, true, true, true, true, false, false, false, false, false, false, false, false, false, false]) (a' := ⟨#[.slice (some ⟨b104, of105, none⟩) s76.length c2, undef, .int .i64 i80, .int .i64 j81, .slice (some ⟨b104, of105, none⟩) s5.length c2, .int .i64 (s5.length : Int), .int .i64 (w64 ((s5.length : Int) - 1)), .int .i64 i80, .int .i64 j81, .bool true, (j75 3), (j75 4), (j75 5), (j75 6), .slice (some ⟨b104, of105, none⟩) s76.length c2, .int .i64 i80, .slice (some ⟨b104, of105, none⟩) s76.length c2, .int .i64 j81, .slice (some ⟨b104, of105, none⟩) s76.length c2, .int .i64 j81, (j75 13), (j75 14), (j75 15), (j75 16), (j75 17), (j75 18), (j75 19), (j75 20)], []⟩) rfl (by kernel_rfl) (by kernel_rfl) (by kernel_rfl) (fun ch_ a_ w_ q_ => (fun ch_ a_ w_ q_ => hnp ch_ a_ w_ (hp14 ch_ a_ w_ q_)) ch_ a_ w_ (hp95 ch_ a_ w_ q_)) (Sg.g1 (Sx.of [s77] (FM.le.refl _) HS98) (fun _ => St.only [] HS98 (FM.le.refl _))) ?_
    refine takeGQ 6 [] rfl (by kernel_rfl) (by kernel_rfl) (by kernel_rfl) (by kernel_rfl) (by kernel_rfl) (by kernel_rfl) (fun ch_ a_ w_ q_ => (fun ch_ a_ w_ q_ => hnp ch_ a_ w_ (hp14 ch_ a_ w_ q_)) ch_ a_ w_ (hp95 ch_ a_ w_ q_)) (Sg.g1 (Sx.of [s77] (FM.le.refl _) HS98) (fun _ => St.only [] HS98 (FM.le.refl _))) (fun w_ hw_ => by obtain ⟨g_, hl_, hS_⟩ := hw_.st; exact run_index (sz := 1) rfl Try.underlying40 (by kernel_rfl) (by kernel_rfl : _ = Value.slice (some ⟨b104, of105, none⟩) s76.length c2) (by kernel_rfl : _ = Value.int .i64 j81) c99 c100 w_) ?_
    refine takeGQ 7 [13] rfl (by kernel_rfl) (by kernel_rfl) (by kernel_rfl) (by kernel_rfl) (by kernel_rfl) (by kernel_rfl) (fun ch_ a_ w_ q_ => (fun ch_ a_ w_ q_ => hnp ch_ a_ w_ (hp14 ch_ a_ w_ q_)) ch_ a_ w_ (hp95 ch_ a_ w_ q_)) (Sg.g1 (Sx.of [s77] (FM.le.refl _) HS98) (fun _ => St.only [] HS98 (FM.le.refl _))) (fun w_ hw_ => by obtain ⟨g_, hl_, hS_⟩ := hw_.seg (j := 13) (s := s77) (by simp) (by simp); exact run_load rfl Try.underlying3 rfl (by kernel_rfl : _ = Value.pointer (some ⟨b104, of105 + (j81 : Int).toNat * 1, none⟩)) ((hc103 hS_) 0 (by decide))) ?_
    have hq_ := guard_some h; clear h; obtain ⟨c106, h⟩ := hq_
    have c106 : 0 ≤ i80 := c106
    have hq_ := guard_some h; clear h; obtain ⟨c107, h⟩ := hq_
    have c107 : i80 < (s76.length : Int) := c107
    obtain ⟨cs108, hr109, hc110⟩ := HO78.at' (i := i80) c106 c107
    obtain rfl := hr109
    refine takeG [8, 9] (n := 8) (fuel := 6) (l' := #[true, true, true, true, true, true, true, true, true, true, false, false, false, false, false, false]) (a' := ⟨#[.slice (some ⟨b104, of105, none⟩) s76.length c2, undef, .int .i64 i80, .int .i64 j81, .slice (some ⟨b104, of105, none⟩) s5.length c2, .int .i64 (s5.length : Int), .int .i64 (w64 ((s5.length : Int) - 1)), .int .i64 i80, .int .i64 j81, .bool true, (j75 3), (j75 4), (j75 5), (j75 6), .slice (some ⟨b104, of105, none⟩) s76.length c2, .int .i64 i80, .slice (some ⟨b104, of105, none⟩) s76.length c2, .int .i64 j81, .slice (some ⟨b104, of105, none⟩) s76.length c2, .int .i64 j81, .pointer (some ⟨b104, of105 + (j81 : Int).toNat * 1, none⟩), .int .i64 (rd s76 j81), .slice (some ⟨b104, of105, none⟩) s76.length c2, .int .i64 i80, (j75 17), (j75 18), (j75 19), (j75 20)], []⟩) rfl (by kernel_rfl) (by kernel_rfl) (by kernel_rfl) (fun ch_ a_ w_ q_ => (fun ch_ a_ w_ q_ => hnp ch_ a_ w_ (hp14 ch_ a_ w_ q_)) ch_ a_ w_ (hp95 ch_ a_ w_ q_)) (Sg.g1 (Sx.of [s77] (FM.le.refl _) HS98) (fun _ => St.only [] HS98 (FM.le.refl _))) ?_
    refine takeGQ 10 [] rfl (by kernel_rfl) (by kernel_rfl) (by kernel_rfl) (by kernel_rfl) (by kernel_rfl) (by kernel_rfl) (fun ch_ a_ w_ q_ => (fun ch_ a_ w_ q_ => hnp ch_ a_ w_ (hp14 ch_ a_ w_ q_)) ch_ a_ w_ (hp95 ch_ a_ w_ q_)) (Sg.g1 (Sx.of [s77] (FM.le.refl _) HS98) (fun _ => St.only [] HS98 (FM.le.refl _))) (fun w_ hw_ => by obtain ⟨g_, hl_, hS_⟩ := hw_.st; exact run_index (sz := 1) rfl Try.underlying40 (by kernel_rfl) (by kernel_rfl : _ = Value.slice (some ⟨b104, of105, none⟩) s76.length c2) (by kernel_rfl : _ = Value.int .i64 i80) c106 c107 w_) ?_
    refine takeGQ 11 [13] rfl (by kernel_rfl) (by kernel_rfl) (by kernel_rfl) (by kernel_rfl) (by kernel_rfl) (by kernel_rfl) (fun ch_ a_ w_ q_ => (fun ch_ a_ w_ q_ => hnp ch_ a_ w_ (hp14 ch_ a_ w_ q_)) ch_ a_ w_ (hp95 ch_ a_ w_ q_)) (Sg.g1 (Sx.of [s77] (FM.le.refl _) HS98) (fun _ => St.only [] HS98 (FM.le.refl _))) (fun w_ hw_ => by obtain ⟨g_, hl_, hS_⟩ := hw_.seg (j := 13) (s := s77) (by simp) (by simp); exact run_load rfl Try.underlying3 rfl (by kernel_rfl : _ = Value.pointer (some ⟨b104, of105 + (i80 : Int).toNat * 1, none⟩)) ((hc110 hS_) 0 (by decide))) ?_
    refine takeGQ 12 [] rfl (by kernel_rfl) (by kernel_rfl) (by kernel_rfl) (by kernel_rfl) (by kernel_rfl) (by kernel_rfl) (fun ch_ a_ w_ q_ => (fun ch_ a_ w_ q_ => hnp ch_ a_ w_ (hp14 ch_ a_ w_ q_)) ch_ a_ w_ (hp95 ch_ a_ w_ q_)) (Sg.g1 (Sx.of [s77] (FM.le.refl _) HS98) (fun _ => St.only [] HS98 (FM.le.refl _))) (fun w_ hw_ => by obtain ⟨g_, hl_, hS_⟩ := hw_.st; exact run_index (sz := 1) rfl Try.underlying40 (by kernel_rfl) (by kernel_rfl : _ = Value.slice (some ⟨b104, of105, none⟩) s76.length c2) (by kernel_rfl : _ = Value.int .i64 i80) c106 c107 w_) ?_
    refine takeGE 13 (by kernel_rfl) rfl (by kernel_rfl) (does_put (e := (tInt .i64)) (E := 3) (vs := [.int .i64 (rd s76 j81)]) (u := (rd s76 j81)) (i := i80) rfl (by kernel_rfl) HO78 HS98 rfl (by kernel_rfl : _ = Value.pointer (some ⟨b104, of105 + (i80 : Int).toNat * 1, none⟩)) (by kernel_rfl : _ = Value.int .i64 (rd s76 j81)) rfl rfl c106 c107 ?_)
    intro W111 s112 HS113 HO114
    refine ⟨(Sg.g1 (Sx.of [s112] (FM.le.refl _) HS113) (fun hl_ => Bool.noConfusion (show true = false from hl_))), ?_⟩
    refine gateRwS 0 (A := (some ⟨b104, of105, none⟩)) (m := s76.length) (n := (s76.set (i80).toNat (rd s76 j81)).length) (c := c2) (by kernel_rfl) (List.length_set).symm ?_
    refine gateRwS 14 (A := (some ⟨b104, of105, none⟩)) (m := s76.length) (n := (s76.set (i80).toNat (rd s76 j81)).length) (c := c2) (by kernel_rfl) (List.length_set).symm ?_
    refine gateRwS 16 (A := (some ⟨b104, of105, none⟩)) (m := s76.length) (n := (s76.set (i80).toNat (rd s76 j81)).length) (c := c2) (by kernel_rfl) (List.length_set).symm ?_
    refine gateRwS 18 (A := (some ⟨b104, of105, none⟩)) (m := s76.length) (n := (s76.set (i80).toNat (rd s76 j81)).length) (c := c2) (by kernel_rfl) (List.length_set).symm ?_
    refine gateRwS 22 (A := (some ⟨b104, of105, none⟩)) (m := s76.length) (n := (s76.set (i80).toNat (rd s76 j81)).length) (c := c2) (by kernel_rfl) (List.length_set).symm ?_
    have hq_ := guard_some h; clear h; obtain ⟨c115, h⟩ := hq_
    have c115 : j81 < ((s76.set (i80).toNat (rd s76 j81)).length : Int) := c115
    obtain ⟨cs116, hr117, hc118⟩ := HO114.at' (i := j81) c99 c115
    obtain rfl := hr117
    refine takeGQ 14 [] rfl (by kernel_rfl) (by kernel_rfl) (by kernel_rfl) (by kernel_rfl) (by kernel_rfl) (by kernel_rfl) (fun ch_ a_ w_ q_ => (fun ch_ a_ w_ q_ => hnp ch_ a_ w_ (hp14 ch_ a_ w_ q_)) ch_ a_ w_ (hp95 ch_ a_ w_ q_)) (Sg.g1 (Sx.of [s112] (FM.le.refl _) HS113) (fun hl_ => Bool.noConfusion (show true = false from hl_))) (fun w_ hw_ => by obtain ⟨g_, hl_, hS_⟩ := hw_.st; exact run_index (sz := 1) rfl Try.underlying40 (by kernel_rfl) (by kernel_rfl : _ = Value.slice (some ⟨b104, of105, none⟩) (s76.set (i80).toNat (rd s76 j81)).length c2) (by kernel_rfl : _ = Value.int .i64 j81) c99 c115 w_) ?_
    refine takeGE 15 (by kernel_rfl) rfl (by kernel_rfl) (does_put (e := (tInt .i64)) (E := 3) (vs := [.int .i64 (rd s76 i80)]) (u := (rd s76 i80)) (i := j81) rfl (by kernel_rfl) HO114 HS113 rfl (by kernel_rfl : _ = Value.pointer (some ⟨b104, of105 + (j81 : Int).toNat * 1, none⟩)) (by kernel_rfl : _ = Value.int .i64 (rd s76 i80)) rfl rfl c99 c115 ?_)
    intro W119 s120 HS121 HO122
    refine ⟨(Sg.g1 (Sx.of [s120] (FM.le.refl _) HS121) (fun hl_ => Bool.noConfusion (show true = false from hl_))), ?_⟩
    refine gateRwS 0 (A := (some ⟨b104, of105, none⟩)) (m := (s76.set (i80).toNat (rd s76 j81)).length) (n := ((s76.set (i80).toNat (rd s76 j81)).set (j81).toNat (rd s76 i80)).length) (c := c2) (by kernel_rfl) (List.length_set).symm ?_
    refine gateRwS 14 (A := (some ⟨b104, of105, none⟩)) (m := (s76.set (i80).toNat (rd s76 j81)).length) (n := ((s76.set (i80).toNat (rd s76 j81)).set (j81).toNat (rd s76 i80)).length) (c := c2) (by kernel_rfl) (List.length_set).symm ?_
    refine gateRwS 16 (A := (some ⟨b104, of105, none⟩)) (m := (s76.set (i80).toNat (rd s76 j81)).length) (n := ((s76.set (i80).toNat (rd s76 j81)).set (j81).toNat (rd s76 i80)).length) (c := c2) (by kernel_rfl) (List.length_set).symm ?_
    refine gateRwS 18 (A := (some ⟨b104, of105, none⟩)) (m := (s76.set (i80).toNat (rd s76 j81)).length) (n := ((s76.set (i80).toNat (rd s76 j81)).set (j81).toNat (rd s76 i80)).length) (c := c2) (by kernel_rfl) (List.length_set).symm ?_
    refine gateRwS 22 (A := (some ⟨b104, of105, none⟩)) (m := (s76.set (i80).toNat (rd s76 j81)).length) (n := ((s76.set (i80).toNat (rd s76 j81)).set (j81).toNat (rd s76 i80)).length) (c := c2) (by kernel_rfl) (List.length_set).symm ?_
    refine doneG (by kernel_rfl) ?_ _
    refine hn92 _ _ ?_
    refine hK89 _ _ ?_
    refine wp_region_lit ?_
    refine seqS6 (a' := ⟨#[.slice (some ⟨b104, of105, none⟩) ((s76.set (i80).toNat (rd s76 j81)).set (j81).toNat (rd s76 i80)).length c2, undef, .int .i64 (w64 (i80 + 1)), .int .i64 (w64 (j81 - 1)), .slice (some ⟨b104, of105, none⟩) s5.length c2, .int .i64 (s5.length : Int), .int .i64 (w64 ((s5.length : Int) - 1)), .int .i64 i80, .int .i64 j81, .bool true, .int .i64 i80, .int .i64 (w64 (i80 + 1)), .int .i64 j81, .int .i64 (w64 (j81 - 1)), .slice (some ⟨b104, of105, none⟩) ((s76.set (i80).toNat (rd s76 j81)).set (j81).toNat (rd s76 i80)).length c2, .int .i64 i80, .slice (some ⟨b104, of105, none⟩) ((s76.set (i80).toNat (rd s76 j81)).set (j81).toNat (rd s76 i80)).length c2, .int .i64 j81, .slice (some ⟨b104, of105, none⟩) ((s76.set (i80).toNat (rd s76 j81)).set (j81).toNat (rd s76 i80)).length c2, .int .i64 j81, .pointer (some ⟨b104, of105 + (j81 : Int).toNat * 1, none⟩), .int .i64 (rd s76 j81), .slice (some ⟨b104, of105, none⟩) ((s76.set (i80).toNat (rd s76 j81)).set (j81).toNat (rd s76 i80)).length c2, .int .i64 i80, .pointer (some ⟨b104, of105 + (i80 : Int).toNat * 1, none⟩), .int .i64 (rd s76 i80), .pointer (some ⟨b104, of105 + (i80 : Int).toNat * 1, none⟩), .pointer (some ⟨b104, of105 + (j81 : Int).toNat * 1, none⟩)], []⟩) (by kernel_rfl) ?_
    refine wpList_nil ?_
    refine hK69 n70 _ _ (Nat.lt_succ_self _) ?_
    exact ⟨f71, s120, ((s76.set (i80).toNat (rd s76 j81)).set (j81).toNat (rd s76 i80)), (w64 (i80 + 1)), (w64 (j81 - 1)), (fun i_ => [Value.int .i64 i80, Value.int .i64 j81, Value.bool true, Value.int .i64 i80, Value.int .i64 (w64 (i80 + 1)), Value.int .i64 j81, Value.int .i64 (w64 (j81 - 1)), Value.slice (some ⟨b104, of105, none⟩) ((s76.set (i80).toNat (rd s76 j81)).set (j81).toNat (rd s76 i80)).length c2, Value.int .i64 i80, Value.slice (some ⟨b104, of105, none⟩) ((s76.set (i80).toNat (rd s76 j81)).set (j81).toNat (rd s76 i80)).length c2, Value.int .i64 j81, Value.slice (some ⟨b104, of105, none⟩) ((s76.set (i80).toNat (rd s76 j81)).set (j81).toNat (rd s76 i80)).length c2, Value.int .i64 j81, Value.pointer (some ⟨b104, of105 + (j81 : Int).toNat * 1, none⟩), Value.int .i64 (rd s76 j81), Value.slice (some ⟨b104, of105, none⟩) ((s76.set (i80).toNat (rd s76 j81)).set (j81).toNat (rd s76 i80)).length c2, Value.int .i64 i80, Value.pointer (some ⟨b104, of105 + (i80 : Int).toNat * 1, none⟩), Value.int .i64 (rd s76 i80), Value.pointer (some ⟨b104, of105 + (i80 : Int).toNat * 1, none⟩), Value.pointer (some ⟨b104, of105 + (j81 : Int).toNat * 1, none⟩)].getD i_ undef), L72, HS121, HO122, (List.length_set.trans (List.length_set.trans HL79)), h, (by kernel_rfl)⟩
  · have c87 : ¬ (i80 < j81) := c87
    refine wpRwI 9 (x := (decide (i80 < j81))) (v := false) (by kernel_rfl) (decide_eq_false c87) ?_
    refine condF (by kernel_rfl) ?_
    refine wp_exit ?_
    refine hx10 _ _ ?_
    exact J133 f71 s77 s76 (fun i_ => [Value.int .i64 i80, Value.int .i64 j81, Value.int .i64 i80, Value.int .i64 j81, Value.bool false, (j75 3), (j75 4), (j75 5), (j75 6), (j75 7), (j75 8), (j75 9), (j75 10), (j75 11), (j75 12), (j75 13), (j75 14), (j75 15), (j75 16), (j75 17), (j75 18), (j75 19), (j75 20)].getD i_ undef) W73 _ L72 h HS74 HO78 HL79 (by kernel_rfl)

set_option maxRecDepth 100000 in
set_option maxHeartbeats 4000000 in
theorem sensor_Bleed_3.calls (k : Nat) (b1 : Nat) (b3 : Nat) (A8 : Option Addr) (c9 : Nat) (b5 : Nat) (A12 : Option Addr) (c13 : Nat) (A15 : Option Addr) (c16 : Nat) (A18 : Option Addr) (c19 : Nat) (v7 : List Int) (v11 : S_Sensor) (i21 : Int) {t w : World} {f : FM} {H : List Seg} (HS : St t w f ([(b1, .cells #[.func (.func 46) #[] #[.pointer (some ⟨b3, 0, none⟩), .pointer (some ⟨b5, 0, none⟩)]] 76 (0, 0))] :: [(b3, .cells #[.slice A8 v7.length c9] 48 (0, 0))] :: [(b5, .cells #[.int .i64 v11.W, .int .i64 v11.H, .slice A12 v11.Bias.length c13, .slice A15 v11.Dark.length c16, .slice A18 v11.Flat.length c19, .int .i64 v11.Full, .int .i64 v11.Gain, .int .i64 v11.Noise] 46 (0, 0))] :: H)) (HR10 : SlR (tInt .i64) f A8 c9 v7) (HR14 : SlR (tInt .i64) f A12 c13 v11.Bias) (HR17 : SlR (tInt .i64) f A15 c16 v11.Dark) (HR20 : SlR (tInt .i64) f A18 c19 v11.Flat) (r1 : Int) (h : sensor_Bleed_3 k v7 v11 i21 = some r1) :
    Calls Try.prog 50 #[.int .i64 i21, .pointer (some ⟨b1, 0, none⟩)] w (fun e w' => ∃ (g : FM), e = .returned (Value.int .i64 r1) ∧ FM.le f g ∧ St t w' g ([(b1, .cells #[.func (.func 46) #[] #[.pointer (some ⟨b3, 0, none⟩), .pointer (some ⟨b5, 0, none⟩)]] 76 (0, 0))] :: [(b3, .cells #[.slice A8 v7.length c9] 48 (0, 0))] :: [(b5, .cells #[.int .i64 v11.W, .int .i64 v11.H, .slice A12 v11.Bias.length c13, .slice A15 v11.Dark.length c16, .slice A18 v11.Flat.length c19, .int .i64 v11.Full, .int .i64 v11.Gain, .int .i64 v11.Noise] 46 (0, 0))] :: H)) := by
  unfold sensor_Bleed_3 at h
  refine enter Try.func50 rfl (tm := #[.int .i64 i21, .pointer (some ⟨b1, 0, none⟩), undef, undef, undef, undef, undef, undef]) (by kernel_rfl) ?_
  intro B hret hnor hnp
  refine wp_seq_k (fun K22 hK23 => ?_)
  refine wp_region_lit ?_
  refine seqS1 (a' := ⟨#[.int .i64 i21, .pointer (some ⟨b1, 0, none⟩), undef, .int .i64 0, undef, undef, undef, undef], []⟩) (by kernel_rfl) ?_
  refine wpList_nil ?_
  refine hK23 _ _ ?_
  refine wp_seq_k (fun K24 hK25 => ?_)
  refine wp_region_lit ?_
  refine seqK rfl (does_run (run_load rfl Try.underlying76 rfl (by kernel_rfl : _ = Value.pointer (some ⟨b1, 0, none⟩)) (HS.cell 0)) ?_)
  have HS26 := HS.u2
  have HS27 := HS26.u2
  have hq_ := bind_some h; clear h; obtain ⟨vt28, hc29, h⟩ := hq_
  refine seqL1 (by kernel_rfl) ?_
  refine seqK rfl (does_call (f := 46) (args := #[.int .i64 i21, .pointer (some ⟨b3, 0, none⟩), .pointer (some ⟨b5, 0, none⟩)]) (by kernel_rfl) (sensor_Bleed_1.calls k b3 A8 c9 b5 A12 c13 A15 c16 A18 c19 v7 v11 i21 HS27 HR10 HR14 HR17 HR20 vt28 hc29) ?_)
  rintro _ W32 ⟨f30, rfl, L31, HS33⟩
  refine ⟨_, rfl, ?_⟩
  refine seqS2 (a' := ⟨#[.int .i64 i21, .pointer (some ⟨b1, 0, none⟩), undef, .int .i64 (w64 (Int.tdiv vt28 2)), .func (.func 46) #[] #[.pointer (some ⟨b3, 0, none⟩), .pointer (some ⟨b5, 0, none⟩)], .int .i64 i21, .int .i64 vt28, .int .i64 (w64 (Int.tdiv vt28 2))], []⟩) (by kernel_rfl) ?_
  refine wpList_nil ?_
  refine hK25 _ _ ?_
  refine wp_ret ?_
  refine hret _ _ ?_
  refine ends_still (v := Value.int .i64 (w64 (Int.tdiv vt28 2))) (by kernel_rfl) (by kernel_rfl) ?_
  have HS34 := HS33.u1
  have HS35 := HS34.u1
  have HS36 := HS35.u2
  injection h with h
  subst h
  exact ⟨f30, rfl, L31, HS36⟩

set_option maxRecDepth 100000 in
set_option maxHeartbeats 4000000 in
theorem sensor_pour__sensor_Bleed_3.calls (k : Nat) (b1 : Nat) (b3 : Nat) (A8 : Option Addr) (c9 : Nat) (b5 : Nat) (A12 : Option Addr) (c13 : Nat) (A15 : Option Addr) (c16 : Nat) (A18 : Option Addr) (c19 : Nat) (A22 : Option Addr) (c23 : Nat) (A25 : Option Addr) (c26 : Nat) (A28 : Option Addr) (c29 : Nat) (A31 : Option Addr) (c32 : Nat) (s33 : Seg) (A38 : Option Addr) (c39 : Nat) (v7 : List Int) (v11 : S_Sensor) (s21 : S_Sensor) (held35 : List Int) (order37 : List Int) {t w : World} {f : FM} {H : List Seg} (HS : St t w f ([(b1, .cells #[.func (.func 46) #[] #[.pointer (some ⟨b3, 0, none⟩), .pointer (some ⟨b5, 0, none⟩)]] 76 (0, 0))] :: [(b3, .cells #[.slice A8 v7.length c9] 48 (0, 0))] :: [(b5, .cells #[.int .i64 v11.W, .int .i64 v11.H, .slice A12 v11.Bias.length c13, .slice A15 v11.Dark.length c16, .slice A18 v11.Flat.length c19, .int .i64 v11.Full, .int .i64 v11.Gain, .int .i64 v11.Noise] 46 (0, 0))] :: s33 :: H)) (HR10 : SlR (tInt .i64) f A8 c9 v7) (HR14 : SlR (tInt .i64) f A12 c13 v11.Bias) (HR17 : SlR (tInt .i64) f A15 c16 v11.Dark) (HR20 : SlR (tInt .i64) f A18 c19 v11.Flat) (HR24 : SlR (tInt .i64) f A22 c23 s21.Bias) (HR27 : SlR (tInt .i64) f A25 c26 s21.Dark) (HR30 : SlR (tInt .i64) f A28 c29 s21.Flat) (HO34 : Own (tInt .i64) 22 f A31 c32 s33 held35) (HR40 : SlR (tInt .i64) f A38 c39 order37) (r1 : Int) (r2 : List Int) (h : sensor_pour__sensor_Bleed_3 k v7 v11 s21 held35 order37 = some (r1, r2)) :
    Calls Try.prog 47 #[.agg #[.int .i64 s21.W, .int .i64 s21.H, .slice A22 s21.Bias.length c23, .slice A25 s21.Dark.length c26, .slice A28 s21.Flat.length c29, .int .i64 s21.Full, .int .i64 s21.Gain, .int .i64 s21.Noise], .slice A31 held35.length c32, .slice A38 order37.length c39, .func (.func 50) #[] #[.pointer (some ⟨b1, 0, none⟩)]] w (fun e w' => ∃ (g : FM) (s206 : Seg), e = .returned (Value.int .i64 r1) ∧ FM.le f g ∧ St t w' g ([(b1, .cells #[.func (.func 46) #[] #[.pointer (some ⟨b3, 0, none⟩), .pointer (some ⟨b5, 0, none⟩)]] 76 (0, 0))] :: [(b3, .cells #[.slice A8 v7.length c9] 48 (0, 0))] :: [(b5, .cells #[.int .i64 v11.W, .int .i64 v11.H, .slice A12 v11.Bias.length c13, .slice A15 v11.Dark.length c16, .slice A18 v11.Flat.length c19, .int .i64 v11.Full, .int .i64 v11.Gain, .int .i64 v11.Noise] 46 (0, 0))] :: s206 :: H) ∧ Own (tInt .i64) 22 g A31 c32 s206 r2 ∧ r2.length = held35.length) := by
  unfold sensor_pour__sensor_Bleed_3 at h
  refine enter Try.func47 rfl (tm := #[.agg #[.int .i64 s21.W, .int .i64 s21.H, .slice A22 s21.Bias.length c23, .slice A25 s21.Dark.length c26, .slice A28 s21.Flat.length c29, .int .i64 s21.Full, .int .i64 s21.Gain, .int .i64 s21.Noise], .slice A31 held35.length c32, .slice A38 order37.length c39, .func (.func 50) #[] #[.pointer (some ⟨b1, 0, none⟩)], undef, undef, undef, undef, undef, undef, undef, undef, undef, undef, undef, undef, undef, undef, undef, undef, undef, undef, undef, undef, undef, undef, undef, undef, undef, undef, undef, undef, undef, undef, undef, undef, undef, undef, undef, undef, undef, undef, undef, undef]) (by kernel_rfl) ?_
  intro B hret hnor hnp
  refine wp_seq_k (fun K41 hK42 => ?_)
  refine wp_region_lit ?_
  refine seqK rfl (does_box (cs := #[.int .i64 s21.W, .int .i64 s21.H, .slice A22 s21.Bias.length c23, .slice A25 s21.Dark.length c26, .slice A28 s21.Flat.length c29, .int .i64 s21.Full, .int .i64 s21.Gain, .int .i64 s21.Noise]) rfl (by kernel_rfl : _ = Value.agg #[.int .i64 s21.W, .int .i64 s21.H, .slice A22 s21.Bias.length c23, .slice A25 s21.Dark.length c26, .slice A28 s21.Flat.length c29, .int .i64 s21.Full, .int .i64 s21.Gain, .int .i64 s21.Noise]) rfl HS ?_)
  intro b43 W44 HS45
  refine seqS1 (a' := ⟨#[.agg #[.int .i64 s21.W, .int .i64 s21.H, .slice A22 s21.Bias.length c23, .slice A25 s21.Dark.length c26, .slice A28 s21.Flat.length c29, .int .i64 s21.Full, .int .i64 s21.Gain, .int .i64 s21.Noise], .slice A31 held35.length c32, .slice A38 order37.length c39, .func (.func 50) #[] #[.pointer (some ⟨b1, 0, none⟩)], .pointer (some ⟨b43, 0, none⟩), undef, undef, undef, .int .i64 0, undef, undef, undef, undef, undef, undef, undef, undef, undef, undef, undef, undef, undef, undef, undef, undef, undef, undef, undef, undef, undef, undef, undef, undef, undef, undef, undef, undef, undef, undef, undef, undef, undef, undef, undef], []⟩) (by kernel_rfl) ?_
  refine wpList_nil ?_
  refine hK42 _ _ ?_
  refine wp_seq_k (fun K47 hK48 => ?_)
  refine wp_region_lit ?_
  refine seqS1 (a' := ⟨#[.agg #[.int .i64 s21.W, .int .i64 s21.H, .slice A22 s21.Bias.length c23, .slice A25 s21.Dark.length c26, .slice A28 s21.Flat.length c29, .int .i64 s21.Full, .int .i64 s21.Gain, .int .i64 s21.Noise], .slice A31 held35.length c32, .slice A38 order37.length c39, .func (.func 50) #[] #[.pointer (some ⟨b1, 0, none⟩)], .pointer (some ⟨b43, 0, none⟩), undef, undef, undef, .int .i64 0, .int .i64 0, undef, undef, undef, undef, undef, undef, undef, undef, undef, undef, undef, undef, undef, undef, undef, undef, undef, undef, undef, undef, undef, undef, undef, undef, undef, undef, undef, undef, undef, undef, undef, undef, undef, undef], []⟩) (by kernel_rfl) ?_
  refine wpList_nil ?_
  refine hK48 _ _ ?_
  refine wp_seq_k (fun K49 hK50 => ?_)
  refine wp_seq_k (fun K51 hK52 => ?_)
  refine wp_region_lit ?_
  refine seqS3 (a' := ⟨#[.agg #[.int .i64 s21.W, .int .i64 s21.H, .slice A22 s21.Bias.length c23, .slice A25 s21.Dark.length c26, .slice A28 s21.Flat.length c29, .int .i64 s21.Full, .int .i64 s21.Gain, .int .i64 s21.Noise], .slice A31 held35.length c32, .slice A38 order37.length c39, .func (.func 50) #[] #[.pointer (some ⟨b1, 0, none⟩)], .pointer (some ⟨b43, 0, none⟩), undef, undef, undef, .int .i64 0, .int .i64 0, undef, undef, undef, .slice A38 order37.length c39, .int .i64 (order37.length : Int), .int .i64 0, undef, undef, undef, undef, undef, undef, undef, undef, undef, undef, undef, undef, undef, undef, undef, undef, undef, undef, undef, undef, undef, undef, undef, undef, undef, undef, undef, undef], []⟩) (by kernel_rfl) ?_
  refine wpList_nil ?_
  refine hK52 _ _ ?_
  refine blockK (fun B53 hx54 hn55 hr56 ho57 hp58 => ?_)
  have hq_ := bind_some h; clear h; obtain ⟨o120, hv195, h⟩ := hq_
  have J196 : ∀ (f185 : FM) (s191 : Seg) (held190 : List Int) (flow194 : Int) (j189 : Nat → Value) (W187 : World) (a_ : Act), FM.le f f185 → some ((held190, flow194)) = some o120 → St t W187 f185 ([(b43, .cells #[.int .i64 s21.W, .int .i64 s21.H, .slice A22 s21.Bias.length c23, .slice A25 s21.Dark.length c26, .slice A28 s21.Flat.length c29, .int .i64 s21.Full, .int .i64 s21.Gain, .int .i64 s21.Noise] 46 (0, 0))] :: [(b1, .cells #[.func (.func 46) #[] #[.pointer (some ⟨b3, 0, none⟩), .pointer (some ⟨b5, 0, none⟩)]] 76 (0, 0))] :: [(b3, .cells #[.slice A8 v7.length c9] 48 (0, 0))] :: [(b5, .cells #[.int .i64 v11.W, .int .i64 v11.H, .slice A12 v11.Bias.length c13, .slice A15 v11.Dark.length c16, .slice A18 v11.Flat.length c19, .int .i64 v11.Full, .int .i64 v11.Gain, .int .i64 v11.Noise] 46 (0, 0))] :: s191 :: H) → Own (tInt .i64) 22 f185 A31 c32 s191 held190 → held190.length = held35.length → a_ = ⟨#[.agg #[.int .i64 s21.W, .int .i64 s21.H, .slice A22 s21.Bias.length c23, .slice A25 s21.Dark.length c26, .slice A28 s21.Flat.length c29, .int .i64 s21.Full, .int .i64 s21.Gain, .int .i64 s21.Noise], .slice A31 held190.length c32, .slice A38 order37.length c39, .func (.func 50) #[] #[.pointer (some ⟨b1, 0, none⟩)], .pointer (some ⟨b43, 0, none⟩), undef, undef, undef, .int .i64 0, .int .i64 flow194, undef, (j189 0), (j189 1), .slice A38 order37.length c39, .int .i64 (order37.length : Int), (j189 2), (j189 3), (j189 4), (j189 5), (j189 6), (j189 7), (j189 8), (j189 9), (j189 10), (j189 11), (j189 12), (j189 13), (j189 14), (j189 15), (j189 16), (j189 17), (j189 18), (j189 19), (j189 20), (j189 21), (j189 22), (j189 23), (j189 24), (j189 25), (j189 26), (j189 27), (j189 28), (j189 29), undef], []⟩ → K49 a_ W187 := by
    intro f185 s191 held190 flow194 j189 W187 a_ L186 hj197 HS188 HO192 HL193 hfr_; subst hfr_
    injection hj197 with hj197; subst hj197; try dsimp only at h
    refine hK50 _ _ ?_
    refine wp_seq_k (fun K203 hK204 => ?_)
    refine wp_region_lit ?_
    refine seqS2 (a' := ⟨#[.agg #[.int .i64 s21.W, .int .i64 s21.H, .slice A22 s21.Bias.length c23, .slice A25 s21.Dark.length c26, .slice A28 s21.Flat.length c29, .int .i64 s21.Full, .int .i64 s21.Gain, .int .i64 s21.Noise], .slice A31 held190.length c32, .slice A38 order37.length c39, .func (.func 50) #[] #[.pointer (some ⟨b1, 0, none⟩)], .pointer (some ⟨b43, 0, none⟩), undef, undef, undef, .int .i64 flow194, .int .i64 flow194, undef, (j189 0), (j189 1), .slice A38 order37.length c39, .int .i64 (order37.length : Int), (j189 2), (j189 3), (j189 4), (j189 5), (j189 6), (j189 7), (j189 8), (j189 9), (j189 10), (j189 11), (j189 12), (j189 13), (j189 14), (j189 15), (j189 16), (j189 17), (j189 18), (j189 19), (j189 20), (j189 21), (j189 22), (j189 23), (j189 24), (j189 25), (j189 26), (j189 27), (j189 28), (j189 29), .int .i64 flow194], []⟩) (by kernel_rfl) ?_
    refine wpList_nil ?_
    refine hK204 _ _ ?_
    refine wp_ret ?_
    refine hret _ _ ?_
    refine ends_still (v := Value.int .i64 flow194) (by kernel_rfl) (by kernel_rfl) ?_
    have HS205 := HS188.drop
    injection h with h
    injection h with h0_ h
    subst h0_ h
    exact ⟨f185, s191, rfl, L186, HS205, HO192, HL193⟩
  clear h; have h := hv195; clear hv195
  refine loopK (fun n_ a_ w_ => ∃ (f124 : FM) (s130 : Seg) (held129 : List Int) (flow133 : Int) (x134 : Int) (j128 : Nat → Value), FM.le f f124 ∧ St t w_ f124 ([(b43, .cells #[.int .i64 s21.W, .int .i64 s21.H, .slice A22 s21.Bias.length c23, .slice A25 s21.Dark.length c26, .slice A28 s21.Flat.length c29, .int .i64 s21.Full, .int .i64 s21.Gain, .int .i64 s21.Noise] 46 (0, 0))] :: [(b1, .cells #[.func (.func 46) #[] #[.pointer (some ⟨b3, 0, none⟩), .pointer (some ⟨b5, 0, none⟩)]] 76 (0, 0))] :: [(b3, .cells #[.slice A8 v7.length c9] 48 (0, 0))] :: [(b5, .cells #[.int .i64 v11.W, .int .i64 v11.H, .slice A12 v11.Bias.length c13, .slice A15 v11.Dark.length c16, .slice A18 v11.Flat.length c19, .int .i64 v11.Full, .int .i64 v11.Gain, .int .i64 v11.Noise] 46 (0, 0))] :: s130 :: H) ∧ Own (tInt .i64) 22 f124 A31 c32 s130 held129 ∧ held129.length = held35.length ∧ sensor_pour__sensor_Bleed_3.l0 k order37 v7 v11 s21 n_ held129 flow133 x134 = some o120 ∧ a_ = ⟨#[.agg #[.int .i64 s21.W, .int .i64 s21.H, .slice A22 s21.Bias.length c23, .slice A25 s21.Dark.length c26, .slice A28 s21.Flat.length c29, .int .i64 s21.Full, .int .i64 s21.Gain, .int .i64 s21.Noise], .slice A31 held129.length c32, .slice A38 order37.length c39, .func (.func 50) #[] #[.pointer (some ⟨b1, 0, none⟩)], .pointer (some ⟨b43, 0, none⟩), undef, undef, undef, .int .i64 0, .int .i64 flow133, undef, (j128 0), (j128 1), .slice A38 order37.length c39, .int .i64 (order37.length : Int), .int .i64 x134, (j128 2), (j128 3), (j128 4), (j128 5), (j128 6), (j128 7), (j128 8), (j128 9), (j128 10), (j128 11), (j128 12), (j128 13), (j128 14), (j128 15), (j128 16), (j128 17), (j128 18), (j128 19), (j128 20), (j128 21), (j128 22), (j128 23), (j128 24), (j128 25), (j128 26), (j128 27), (j128 28), undef], []⟩) k ⟨f, s33, held35, 0, 0, (fun i_ => [undef, undef, undef, undef, undef, undef, undef, undef, undef, undef, undef, undef, undef, undef, undef, undef, undef, undef, undef, undef, undef, undef, undef, undef, undef, undef, undef, undef, undef].getD i_ undef), (FM.le.refl _), HS45, HO34, rfl, h, (by kernel_rfl)⟩ ?_
  clear h
  rintro n123 _ W126 ⟨f124, s130, held129, flow133, x134, j128, L125, HS127, HO131, HL132, h, rfl⟩ K121 hK122
  obtain _ | n123 := n123
  · exact nomatch h
  simp only [sensor_pour__sensor_Bleed_3.l0] at h
  refine wp_seq_k (fun K135 hK136 => ?_)
  refine wp_region_lit ?_
  refine seqS1 (a' := ⟨#[.agg #[.int .i64 s21.W, .int .i64 s21.H, .slice A22 s21.Bias.length c23, .slice A25 s21.Dark.length c26, .slice A28 s21.Flat.length c29, .int .i64 s21.Full, .int .i64 s21.Gain, .int .i64 s21.Noise], .slice A31 held129.length c32, .slice A38 order37.length c39, .func (.func 50) #[] #[.pointer (some ⟨b1, 0, none⟩)], .pointer (some ⟨b43, 0, none⟩), undef, undef, undef, .int .i64 0, .int .i64 flow133, undef, (j128 0), (j128 1), .slice A38 order37.length c39, .int .i64 (order37.length : Int), .int .i64 x134, .bool (decide (x134 < (order37.length : Int))), (j128 3), (j128 4), (j128 5), (j128 6), (j128 7), (j128 8), (j128 9), (j128 10), (j128 11), (j128 12), (j128 13), (j128 14), (j128 15), (j128 16), (j128 17), (j128 18), (j128 19), (j128 20), (j128 21), (j128 22), (j128 23), (j128 24), (j128 25), (j128 26), (j128 27), (j128 28), undef], []⟩) (by kernel_rfl) ?_
  refine wpList_nil ?_
  refine hK136 _ _ ?_
  refine wp_seq_k (fun K137 hK138 => ?_)
  have hq_ := ite_some h; clear h; rcases hq_ with ⟨c140, h⟩ | ⟨c140, h⟩
  · have c140 : x134 < (order37.length : Int) := c140
    refine wpRwI 16 (x := (decide (x134 < (order37.length : Int)))) (v := true) (by kernel_rfl) (decide_eq_true c140) ?_
    refine condT (by kernel_rfl) ?_
    refine wp_skip ?_
    refine hK138 _ _ ?_
    refine wp_seq_k (fun K141 hK142 => ?_)
    refine blockK (fun B143 hx144 hn145 hr146 ho147 hp148 => ?_)
    refine wp_seq_k (fun K150 hK151 => ?_)
    refine wp_region_lit ?_
    have hq_ := guard_some h; clear h; obtain ⟨c152, h⟩ := hq_
    have c152 : 0 ≤ x134 := c152
    obtain ⟨b156, of157, cs153, rfl, hr154, hc155⟩ := (HR40.mono L125).at (i := x134) c152 c140
    obtain rfl := hr154
    refine seqK rfl (does_run (run_index (sz := 1) rfl Try.underlying40 (by kernel_rfl) (by kernel_rfl : _ = Value.slice (some ⟨b156, of157, none⟩) order37.length c39) (by kernel_rfl : _ = Value.int .i64 x134) c152 c140 W126) ?_)
    refine seqK rfl (does_run (run_load rfl Try.underlying3 rfl (by kernel_rfl : _ = Value.pointer (some ⟨b156, of157 + (x134 : Int).toNat * 1, none⟩)) ((hc155 (FM.le.refl _) HS127) 0 (by decide))) ?_)
    refine seqS1 (a' := ⟨#[.agg #[.int .i64 s21.W, .int .i64 s21.H, .slice A22 s21.Bias.length c23, .slice A25 s21.Dark.length c26, .slice A28 s21.Flat.length c29, .int .i64 s21.Full, .int .i64 s21.Gain, .int .i64 s21.Noise], .slice A31 held129.length c32, .slice (some ⟨b156, of157, none⟩) order37.length c39, .func (.func 50) #[] #[.pointer (some ⟨b1, 0, none⟩)], .pointer (some ⟨b43, 0, none⟩), undef, undef, undef, .int .i64 0, .int .i64 flow133, undef, .int .i64 (rd order37 x134), (j128 1), .slice (some ⟨b156, of157, none⟩) order37.length c39, .int .i64 (order37.length : Int), .int .i64 x134, .bool true, .pointer (some ⟨b156, of157 + (x134 : Int).toNat * 1, none⟩), .int .i64 (rd order37 x134), (j128 5), (j128 6), (j128 7), (j128 8), (j128 9), (j128 10), (j128 11), (j128 12), (j128 13), (j128 14), (j128 15), (j128 16), (j128 17), (j128 18), (j128 19), (j128 20), (j128 21), (j128 22), (j128 23), (j128 24), (j128 25), (j128 26), (j128 27), (j128 28), undef], []⟩) (by kernel_rfl) ?_
    refine wpList_nil ?_
    refine hK151 _ _ ?_
    refine wp_seq_k (fun K158 hK159 => ?_)
    refine heldG (S := Sg t f124 ([(b43, .cells #[.int .i64 s21.W, .int .i64 s21.H, .slice A22 s21.Bias.length c23, .slice A25 s21.Dark.length c26, .slice A28 s21.Flat.length c29, .int .i64 s21.Full, .int .i64 s21.Gain, .int .i64 s21.Noise] 46 (0, 0))] :: [(b1, .cells #[.func (.func 46) #[] #[.pointer (some ⟨b3, 0, none⟩), .pointer (some ⟨b5, 0, none⟩)]] 76 (0, 0))] :: [(b3, .cells #[.slice A8 v7.length c9] 48 (0, 0))] :: [(b5, .cells #[.int .i64 v11.W, .int .i64 v11.H, .slice A12 v11.Bias.length c13, .slice A15 v11.Dark.length c16, .slice A18 v11.Flat.length c19, .int .i64 v11.Full, .int .i64 v11.Gain, .int .i64 v11.Noise] 46 (0, 0))] :: s130 :: H) []) (n := 10) (by kernel_rfl) rfl HS127 ?_
    intro W160 HS161
    refine takeG [0, 1] (n := 10) (fuel := 8) (l' := #[true, true, false, false, false, false, false, false, false, false]) (a' := ⟨#[.agg #[.int .i64 s21.W, .int .i64 s21.H, .slice A22 s21.Bias.length c23, .slice A25 s21.Dark.length c26, .slice A28 s21.Flat.length c29, .int .i64 s21.Full, .int .i64 s21.Gain, .int .i64 s21.Noise], .slice A31 held129.length c32, .slice (some ⟨b156, of157, none⟩) order37.length c39, .func (.func 50) #[] #[.pointer (some ⟨b1, 0, none⟩)], .pointer (some ⟨b43, 0, none⟩), undef, undef, undef, .int .i64 0, .int .i64 flow133, undef, .int .i64 (rd order37 x134), (j128 1), .slice (some ⟨b156, of157, none⟩) order37.length c39, .int .i64 (order37.length : Int), .int .i64 x134, .bool true, .pointer (some ⟨b156, of157 + (x134 : Int).toNat * 1, none⟩), .int .i64 (rd order37 x134), .int .i64 flow133, .pointer (some ⟨b43, 5, none⟩), (j128 7), (j128 8), (j128 9), (j128 10), (j128 11), (j128 12), (j128 13), (j128 14), (j128 15), (j128 16), (j128 17), (j128 18), (j128 19), (j128 20), (j128 21), (j128 22), (j128 23), (j128 24), (j128 25), (j128 26), (j128 27), (j128 28), undef], []⟩) rfl (by kernel_rfl) (by kernel_rfl) (by kernel_rfl) (fun ch_ a_ w_ q_ => (fun ch_ a_ w_ q_ => hnp ch_ a_ w_ (hp58 ch_ a_ w_ q_)) ch_ a_ w_ (hp148 ch_ a_ w_ q_)) (Sg.g0 (Sx.of [] (FM.le.refl _) HS161)) ?_
    refine takeGQ 2 [] rfl (by kernel_rfl) (by kernel_rfl) (by kernel_rfl) (by kernel_rfl) (by kernel_rfl) (by kernel_rfl) (fun ch_ a_ w_ q_ => (fun ch_ a_ w_ q_ => hnp ch_ a_ w_ (hp58 ch_ a_ w_ q_)) ch_ a_ w_ (hp148 ch_ a_ w_ q_)) (Sg.g0 (Sx.of [] (FM.le.refl _) HS161)) (fun w_ hw_ => by obtain ⟨g_, hl_, hS_⟩ := hw_.st; exact run_load rfl Try.underlying22 rfl (by kernel_rfl : _ = Value.pointer (some ⟨b43, 5, none⟩)) (hS_.cell 5)) ?_
    have hq_ := guard_some h; clear h; obtain ⟨c162, h⟩ := hq_
    have c162 : 0 ≤ (rd order37 x134) := c162
    have hq_ := guard_some h; clear h; obtain ⟨c163, h⟩ := hq_
    have c163 : (rd order37 x134) < (held129.length : Int) := c163
    obtain ⟨b167, of168, cs164, rfl, hr165, hc166⟩ := HO131.at (i := (rd order37 x134)) c162 c163
    obtain rfl := hr165
    refine takeG [3, 4] (n := 7) (fuel := 5) (l' := #[true, true, true, true, true, false, false, false, false, false]) (a' := ⟨#[.agg #[.int .i64 s21.W, .int .i64 s21.H, .slice A22 s21.Bias.length c23, .slice A25 s21.Dark.length c26, .slice A28 s21.Flat.length c29, .int .i64 s21.Full, .int .i64 s21.Gain, .int .i64 s21.Noise], .slice (some ⟨b167, of168, none⟩) held129.length c32, .slice (some ⟨b156, of157, none⟩) order37.length c39, .func (.func 50) #[] #[.pointer (some ⟨b1, 0, none⟩)], .pointer (some ⟨b43, 0, none⟩), undef, undef, undef, .int .i64 0, .int .i64 flow133, undef, .int .i64 (rd order37 x134), (j128 1), .slice (some ⟨b156, of157, none⟩) order37.length c39, .int .i64 (order37.length : Int), .int .i64 x134, .bool true, .pointer (some ⟨b156, of157 + (x134 : Int).toNat * 1, none⟩), .int .i64 (rd order37 x134), .int .i64 flow133, .pointer (some ⟨b43, 5, none⟩), .int .i64 s21.Full, .slice (some ⟨b167, of168, none⟩) held129.length c32, .int .i64 (rd order37 x134), (j128 10), (j128 11), (j128 12), (j128 13), (j128 14), (j128 15), (j128 16), (j128 17), (j128 18), (j128 19), (j128 20), (j128 21), (j128 22), (j128 23), (j128 24), (j128 25), (j128 26), (j128 27), (j128 28), undef], []⟩) rfl (by kernel_rfl) (by kernel_rfl) (by kernel_rfl) (fun ch_ a_ w_ q_ => (fun ch_ a_ w_ q_ => hnp ch_ a_ w_ (hp58 ch_ a_ w_ q_)) ch_ a_ w_ (hp148 ch_ a_ w_ q_)) (Sg.g0 (Sx.of [] (FM.le.refl _) HS161)) ?_
    refine takeGQ 5 [] rfl (by kernel_rfl) (by kernel_rfl) (by kernel_rfl) (by kernel_rfl) (by kernel_rfl) (by kernel_rfl) (fun ch_ a_ w_ q_ => (fun ch_ a_ w_ q_ => hnp ch_ a_ w_ (hp58 ch_ a_ w_ q_)) ch_ a_ w_ (hp148 ch_ a_ w_ q_)) (Sg.g0 (Sx.of [] (FM.le.refl _) HS161)) (fun w_ hw_ => by obtain ⟨g_, hl_, hS_⟩ := hw_.st; exact run_index (sz := 1) rfl Try.underlying48 (by kernel_rfl) (by kernel_rfl : _ = Value.slice (some ⟨b167, of168, none⟩) held129.length c32) (by kernel_rfl : _ = Value.int .i64 (rd order37 x134)) c162 c163 w_) ?_
    refine takeGQ 6 [] rfl (by kernel_rfl) (by kernel_rfl) (by kernel_rfl) (by kernel_rfl) (by kernel_rfl) (by kernel_rfl) (fun ch_ a_ w_ q_ => (fun ch_ a_ w_ q_ => hnp ch_ a_ w_ (hp58 ch_ a_ w_ q_)) ch_ a_ w_ (hp148 ch_ a_ w_ q_)) (Sg.g0 (Sx.of [] (FM.le.refl _) HS161)) (fun w_ hw_ => by obtain ⟨g_, hl_, hS_⟩ := hw_.st; exact run_load rfl Try.underlying22 rfl (by kernel_rfl : _ = Value.pointer (some ⟨b167, of168 + ((rd order37 x134) : Int).toNat * 1, none⟩)) ((hc166 hS_.u4) 0 (by decide))) ?_
    refine takeG [7, 8, 9] (n := 3) (fuel := 0) (l' := #[true, true, true, true, true, true, true, true, true, true]) (a' := ⟨#[.agg #[.int .i64 s21.W, .int .i64 s21.H, .slice A22 s21.Bias.length c23, .slice A25 s21.Dark.length c26, .slice A28 s21.Flat.length c29, .int .i64 s21.Full, .int .i64 s21.Gain, .int .i64 s21.Noise], .slice (some ⟨b167, of168, none⟩) held129.length c32, .slice (some ⟨b156, of157, none⟩) order37.length c39, .func (.func 50) #[] #[.pointer (some ⟨b1, 0, none⟩)], .pointer (some ⟨b43, 0, none⟩), undef, undef, undef, .int .i64 0, .int .i64 flow133, undef, .int .i64 (rd order37 x134), .int .i64 (mn flow133 (w64 (s21.Full - (rd held129 (rd order37 x134))))), .slice (some ⟨b156, of157, none⟩) order37.length c39, .int .i64 (order37.length : Int), .int .i64 x134, .bool true, .pointer (some ⟨b156, of157 + (x134 : Int).toNat * 1, none⟩), .int .i64 (rd order37 x134), .int .i64 flow133, .pointer (some ⟨b43, 5, none⟩), .int .i64 s21.Full, .slice (some ⟨b167, of168, none⟩) held129.length c32, .int .i64 (rd order37 x134), .pointer (some ⟨b167, of168 + ((rd order37 x134) : Int).toNat * 1, none⟩), .int .i64 (rd held129 (rd order37 x134)), .int .i64 (w64 (s21.Full - (rd held129 (rd order37 x134)))), .int .i64 (mn flow133 (w64 (s21.Full - (rd held129 (rd order37 x134))))), (j128 14), (j128 15), (j128 16), (j128 17), (j128 18), (j128 19), (j128 20), (j128 21), (j128 22), (j128 23), (j128 24), (j128 25), (j128 26), (j128 27), (j128 28), undef], []⟩) rfl (by kernel_rfl) (by kernel_rfl) (by kernel_rfl) (fun ch_ a_ w_ q_ => (fun ch_ a_ w_ q_ => hnp ch_ a_ w_ (hp58 ch_ a_ w_ q_)) ch_ a_ w_ (hp148 ch_ a_ w_ q_)) (Sg.g0 (Sx.of [] (FM.le.refl _) HS161)) ?_
    refine doneG (by kernel_rfl) ?_ _
    refine hK159 _ _ ?_
    refine wp_seq_k (fun K169 hK170 => ?_)
    refine wp_region_lit ?_
    refine seqL2 (by kernel_rfl) ?_
    refine seqK rfl (does_run (run_index (sz := 1) rfl Try.underlying48 (by kernel_rfl) (by kernel_rfl : _ = Value.slice (some ⟨b167, of168, none⟩) held129.length c32) (by kernel_rfl : _ = Value.int .i64 (rd order37 x134)) c162 c163 W160) ?_)
    refine seqK rfl (does_run (run_load rfl Try.underlying22 rfl (by kernel_rfl : _ = Value.pointer (some ⟨b167, of168 + ((rd order37 x134) : Int).toNat * 1, none⟩)) ((hc166 HS161.u4) 0 (by decide))) ?_)
    refine seqL2 (by kernel_rfl) ?_
    refine seqK rfl (does_run (run_index (sz := 1) rfl Try.underlying48 (by kernel_rfl) (by kernel_rfl : _ = Value.slice (some ⟨b167, of168, none⟩) held129.length c32) (by kernel_rfl : _ = Value.int .i64 (rd order37 x134)) c162 c163 W160) ?_)
    have HS171 := HS161.u4
    refine seqK rfl (does_put (e := (tInt .i64)) (E := 22) (vs := [.int .i64 (w64 ((rd held129 (rd order37 x134)) + (mn flow133 (w64 (s21.Full - (rd held129 (rd order37 x134)))))))]) (u := w64 ((rd held129 (rd order37 x134)) + (mn flow133 (w64 (s21.Full - (rd held129 (rd order37 x134))))))) (i := (rd order37 x134)) rfl (by kernel_rfl) HO131 HS171 rfl (by kernel_rfl : _ = Value.pointer (some ⟨b167, of168 + ((rd order37 x134) : Int).toNat * 1, none⟩)) (by kernel_rfl : _ = Value.int .i64 (w64 ((rd held129 (rd order37 x134)) + (mn flow133 (w64 (s21.Full - (rd held129 (rd order37 x134)))))))) rfl rfl c162 c163 ?_)
    intro W172 s173 HS174 HO175
    refine seqRwS 1 (A := (some ⟨b167, of168, none⟩)) (m := held129.length) (n := (held129.set ((rd order37 x134)).toNat (w64 ((rd held129 (rd order37 x134)) + (mn flow133 (w64 (s21.Full - (rd held129 (rd order37 x134)))))))).length) (c := c32) (by kernel_rfl) (List.length_set).symm ?_
    refine seqRwS 22 (A := (some ⟨b167, of168, none⟩)) (m := held129.length) (n := (held129.set ((rd order37 x134)).toNat (w64 ((rd held129 (rd order37 x134)) + (mn flow133 (w64 (s21.Full - (rd held129 (rd order37 x134)))))))).length) (c := c32) (by kernel_rfl) (List.length_set).symm ?_
    refine seqRwS 28 (A := (some ⟨b167, of168, none⟩)) (m := held129.length) (n := (held129.set ((rd order37 x134)).toNat (w64 ((rd held129 (rd order37 x134)) + (mn flow133 (w64 (s21.Full - (rd held129 (rd order37 x134)))))))).length) (c := c32) (by kernel_rfl) (List.length_set).symm ?_
    refine wpList_nil ?_
    refine hK170 _ _ ?_
    refine wp_region_lit ?_
    have HS176 := HS174.u4
    have HS177 := HS176.u4
    have HS178 := HS177.u4
    have hq_ := bind_some h; clear h; obtain ⟨vt179, hc180, h⟩ := hq_
    refine seqL3 (by kernel_rfl) ?_
    refine seqK rfl (does_call (f := 50) (args := #[.int .i64 (rd order37 x134), .pointer (some ⟨b1, 0, none⟩)]) (by kernel_rfl) (sensor_Bleed_3.calls k b1 b3 A8 c9 b5 A12 c13 A15 c16 A18 c19 v7 v11 (rd order37 x134) HS178 (HR10.mono L125) (HR14.mono L125) (HR17.mono L125) (HR20.mono L125) vt179 hc180) ?_)
    rintro _ W183 ⟨f181, rfl, L182, HS184⟩
    refine ⟨_, rfl, ?_⟩
    refine seqS4 (a' := ⟨#[.agg #[.int .i64 s21.W, .int .i64 s21.H, .slice A22 s21.Bias.length c23, .slice A25 s21.Dark.length c26, .slice A28 s21.Flat.length c29, .int .i64 s21.Full, .int .i64 s21.Gain, .int .i64 s21.Noise], .slice (some ⟨b167, of168, none⟩) (held129.set ((rd order37 x134)).toNat (w64 ((rd held129 (rd order37 x134)) + (mn flow133 (w64 (s21.Full - (rd held129 (rd order37 x134)))))))).length c32, .slice (some ⟨b156, of157, none⟩) order37.length c39, .func (.func 50) #[] #[.pointer (some ⟨b1, 0, none⟩)], .pointer (some ⟨b43, 0, none⟩), undef, undef, undef, .int .i64 0, .int .i64 (w64 (flow133 + (w64 (vt179 - (mn flow133 (w64 (s21.Full - (rd held129 (rd order37 x134))))))))), undef, .int .i64 (rd order37 x134), .int .i64 (mn flow133 (w64 (s21.Full - (rd held129 (rd order37 x134))))), .slice (some ⟨b156, of157, none⟩) order37.length c39, .int .i64 (order37.length : Int), .int .i64 x134, .bool true, .pointer (some ⟨b156, of157 + (x134 : Int).toNat * 1, none⟩), .int .i64 (rd order37 x134), .int .i64 flow133, .pointer (some ⟨b43, 5, none⟩), .int .i64 s21.Full, .slice (some ⟨b167, of168, none⟩) (held129.set ((rd order37 x134)).toNat (w64 ((rd held129 (rd order37 x134)) + (mn flow133 (w64 (s21.Full - (rd held129 (rd order37 x134)))))))).length c32, .int .i64 (rd order37 x134), .pointer (some ⟨b167, of168 + ((rd order37 x134) : Int).toNat * 1, none⟩), .int .i64 (rd held129 (rd order37 x134)), .int .i64 (w64 (s21.Full - (rd held129 (rd order37 x134)))), .int .i64 (mn flow133 (w64 (s21.Full - (rd held129 (rd order37 x134))))), .slice (some ⟨b167, of168, none⟩) (held129.set ((rd order37 x134)).toNat (w64 ((rd held129 (rd order37 x134)) + (mn flow133 (w64 (s21.Full - (rd held129 (rd order37 x134)))))))).length c32, .int .i64 (rd order37 x134), .pointer (some ⟨b167, of168 + ((rd order37 x134) : Int).toNat * 1, none⟩), .int .i64 (rd held129 (rd order37 x134)), .int .i64 (mn flow133 (w64 (s21.Full - (rd held129 (rd order37 x134))))), .int .i64 (w64 ((rd held129 (rd order37 x134)) + (mn flow133 (w64 (s21.Full - (rd held129 (rd order37 x134))))))), .pointer (some ⟨b167, of168 + ((rd order37 x134) : Int).toNat * 1, none⟩), .int .i64 flow133, .func (.func 50) #[] #[.pointer (some ⟨b1, 0, none⟩)], .int .i64 (rd order37 x134), .int .i64 vt179, .int .i64 (mn flow133 (w64 (s21.Full - (rd held129 (rd order37 x134))))), .int .i64 (w64 (vt179 - (mn flow133 (w64 (s21.Full - (rd held129 (rd order37 x134))))))), .int .i64 (w64 (flow133 + (w64 (vt179 - (mn flow133 (w64 (s21.Full - (rd held129 (rd order37 x134))))))))), (j128 28), undef], []⟩) (by kernel_rfl) ?_
    refine wpList_nil ?_
    refine hn145 _ _ ?_
    refine hK142 _ _ ?_
    refine wp_region_lit ?_
    refine seqS2 (a' := ⟨#[.agg #[.int .i64 s21.W, .int .i64 s21.H, .slice A22 s21.Bias.length c23, .slice A25 s21.Dark.length c26, .slice A28 s21.Flat.length c29, .int .i64 s21.Full, .int .i64 s21.Gain, .int .i64 s21.Noise], .slice (some ⟨b167, of168, none⟩) (held129.set ((rd order37 x134)).toNat (w64 ((rd held129 (rd order37 x134)) + (mn flow133 (w64 (s21.Full - (rd held129 (rd order37 x134)))))))).length c32, .slice (some ⟨b156, of157, none⟩) order37.length c39, .func (.func 50) #[] #[.pointer (some ⟨b1, 0, none⟩)], .pointer (some ⟨b43, 0, none⟩), undef, undef, undef, .int .i64 0, .int .i64 (w64 (flow133 + (w64 (vt179 - (mn flow133 (w64 (s21.Full - (rd held129 (rd order37 x134))))))))), undef, .int .i64 (rd order37 x134), .int .i64 (mn flow133 (w64 (s21.Full - (rd held129 (rd order37 x134))))), .slice (some ⟨b156, of157, none⟩) order37.length c39, .int .i64 (order37.length : Int), .int .i64 (w64 (x134 + 1)), .bool true, .pointer (some ⟨b156, of157 + (x134 : Int).toNat * 1, none⟩), .int .i64 (rd order37 x134), .int .i64 flow133, .pointer (some ⟨b43, 5, none⟩), .int .i64 s21.Full, .slice (some ⟨b167, of168, none⟩) (held129.set ((rd order37 x134)).toNat (w64 ((rd held129 (rd order37 x134)) + (mn flow133 (w64 (s21.Full - (rd held129 (rd order37 x134)))))))).length c32, .int .i64 (rd order37 x134), .pointer (some ⟨b167, of168 + ((rd order37 x134) : Int).toNat * 1, none⟩), .int .i64 (rd held129 (rd order37 x134)), .int .i64 (w64 (s21.Full - (rd held129 (rd order37 x134)))), .int .i64 (mn flow133 (w64 (s21.Full - (rd held129 (rd order37 x134))))), .slice (some ⟨b167, of168, none⟩) (held129.set ((rd order37 x134)).toNat (w64 ((rd held129 (rd order37 x134)) + (mn flow133 (w64 (s21.Full - (rd held129 (rd order37 x134)))))))).length c32, .int .i64 (rd order37 x134), .pointer (some ⟨b167, of168 + ((rd order37 x134) : Int).toNat * 1, none⟩), .int .i64 (rd held129 (rd order37 x134)), .int .i64 (mn flow133 (w64 (s21.Full - (rd held129 (rd order37 x134))))), .int .i64 (w64 ((rd held129 (rd order37 x134)) + (mn flow133 (w64 (s21.Full - (rd held129 (rd order37 x134))))))), .pointer (some ⟨b167, of168 + ((rd order37 x134) : Int).toNat * 1, none⟩), .int .i64 flow133, .func (.func 50) #[] #[.pointer (some ⟨b1, 0, none⟩)], .int .i64 (rd order37 x134), .int .i64 vt179, .int .i64 (mn flow133 (w64 (s21.Full - (rd held129 (rd order37 x134))))), .int .i64 (w64 (vt179 - (mn flow133 (w64 (s21.Full - (rd held129 (rd order37 x134))))))), .int .i64 (w64 (flow133 + (w64 (vt179 - (mn flow133 (w64 (s21.Full - (rd held129 (rd order37 x134))))))))), .int .i64 (w64 (x134 + 1)), undef], []⟩) (by kernel_rfl) ?_
    refine wpList_nil ?_
    refine hK122 n123 _ _ (Nat.lt_succ_self _) ?_
    have HS198 := HS184.u3
    have HS199 := HS198.u3
    have HS200 := HS199.u3
    have HS201 := HS200.u3
    have HS202 := HS201.u4
    exact ⟨f181, s173, (held129.set ((rd order37 x134)).toNat (w64 ((rd held129 (rd order37 x134)) + (mn flow133 (w64 (s21.Full - (rd held129 (rd order37 x134)))))))), (w64 (flow133 + (w64 (vt179 - (mn flow133 (w64 (s21.Full - (rd held129 (rd order37 x134))))))))), (w64 (x134 + 1)), (fun i_ => [Value.int .i64 (rd order37 x134), Value.int .i64 (mn flow133 (w64 (s21.Full - (rd held129 (rd order37 x134))))), Value.bool true, Value.pointer (some ⟨b156, of157 + (x134 : Int).toNat * 1, none⟩), Value.int .i64 (rd order37 x134), Value.int .i64 flow133, Value.pointer (some ⟨b43, 5, none⟩), Value.int .i64 s21.Full, Value.slice (some ⟨b167, of168, none⟩) (held129.set ((rd order37 x134)).toNat (w64 ((rd held129 (rd order37 x134)) + (mn flow133 (w64 (s21.Full - (rd held129 (rd order37 x134)))))))).length c32, Value.int .i64 (rd order37 x134), Value.pointer (some ⟨b167, of168 + ((rd order37 x134) : Int).toNat * 1, none⟩), Value.int .i64 (rd held129 (rd order37 x134)), Value.int .i64 (w64 (s21.Full - (rd held129 (rd order37 x134)))), Value.int .i64 (mn flow133 (w64 (s21.Full - (rd held129 (rd order37 x134))))), Value.slice (some ⟨b167, of168, none⟩) (held129.set ((rd order37 x134)).toNat (w64 ((rd held129 (rd order37 x134)) + (mn flow133 (w64 (s21.Full - (rd held129 (rd order37 x134)))))))).length c32, Value.int .i64 (rd order37 x134), Value.pointer (some ⟨b167, of168 + ((rd order37 x134) : Int).toNat * 1, none⟩), Value.int .i64 (rd held129 (rd order37 x134)), Value.int .i64 (mn flow133 (w64 (s21.Full - (rd held129 (rd order37 x134))))), Value.int .i64 (w64 ((rd held129 (rd order37 x134)) + (mn flow133 (w64 (s21.Full - (rd held129 (rd order37 x134))))))), Value.pointer (some ⟨b167, of168 + ((rd order37 x134) : Int).toNat * 1, none⟩), Value.int .i64 flow133, Value.func (.func 50) #[] #[.pointer (some ⟨b1, 0, none⟩)], Value.int .i64 (rd order37 x134), Value.int .i64 vt179, Value.int .i64 (mn flow133 (w64 (s21.Full - (rd held129 (rd order37 x134))))), Value.int .i64 (w64 (vt179 - (mn flow133 (w64 (s21.Full - (rd held129 (rd order37 x134))))))), Value.int .i64 (w64 (flow133 + (w64 (vt179 - (mn flow133 (w64 (s21.Full - (rd held129 (rd order37 x134))))))))), Value.int .i64 (w64 (x134 + 1))].getD i_ undef), (L125.trans L182), HS202, (HO175.mono L182), (List.length_set.trans HL132), h, (by kernel_rfl)⟩
  · have c140 : ¬ (x134 < (order37.length : Int)) := c140
    refine wpRwI 16 (x := (decide (x134 < (order37.length : Int)))) (v := false) (by kernel_rfl) (decide_eq_false c140) ?_
    refine condF (by kernel_rfl) ?_
    refine wp_exit ?_
    refine hx54 _ _ ?_
    exact J196 f124 s130 held129 flow133 (fun i_ => [(j128 0), (j128 1), Value.int .i64 x134, Value.bool false, (j128 3), (j128 4), (j128 5), (j128 6), (j128 7), (j128 8), (j128 9), (j128 10), (j128 11), (j128 12), (j128 13), (j128 14), (j128 15), (j128 16), (j128 17), (j128 18), (j128 19), (j128 20), (j128 21), (j128 22), (j128 23), (j128 24), (j128 25), (j128 26), (j128 27), (j128 28)].getD i_ undef) W126 _ L125 h HS127 HO131 HL132 (by kernel_rfl)

end Go.Sp.X7
