import Derived.Test.YtjibamedpdpofaaProg
import Derived.Test.YtjibamedpdpofaaSpMore
import Derived.Test.YtjibamedpdpofaaFX5
import Derived.Test.YtjibamedpdpofaaKX5n0
import Derived.Test.YtjibamedpdpofaaKX5n1
import Derived.Test.YtjibamedpdpofaaKX5n2
import Derived.Test.YtjibamedpdpofaaKX5n3
namespace Go.Sp.X5
open Go Go.Sp Go.Proofs
set_option linter.unusedVariables false
attribute [local irreducible] wpList AnyL Code.wp Calls Does
set_option maxRecDepth 100000 in
set_option maxHeartbeats 4000000 in
theorem num_Wide_Div.calls (k : Nat)  (vw1 : S_Wide) (d2 : Int) {t w : World} {f : FM} {H : List Seg} (HS : St t w f (H)) (r1 : Int) (r2 : Int) (h : num_Wide_Div k vw1 d2 = some (r1, r2)) :
    Calls Try.prog 65 #[.agg #[.int .i64 vw1.Hi, .int .u64 vw1.Lo], .int .i64 d2] w (fun e w' => ∃ (g : FM), e = .returned (Value.tuple #[.int .i64 r1, .int .i64 r2]) ∧ FM.le f g ∧ St t w' g (H)) := by
  unfold num_Wide_Div at h
  refine enter Try.func65 rfl (tm := #[.agg #[.int .i64 vw1.Hi, .int .u64 vw1.Lo], .int .i64 d2, undef, undef, undef, undef, undef, undef, undef, undef, undef, undef, undef, undef, undef, undef, undef, undef, undef, undef, undef, undef, undef, undef, undef, undef, undef, undef, undef, undef, undef, undef, undef, undef, undef, undef, undef, undef, undef, undef, undef, undef, undef, undef, undef, undef, undef, undef, undef, undef, undef, undef, undef, undef, undef, undef, undef, undef, undef, undef, undef]) (by kernel_rfl) ?_
  intro B hret hnor hnp
  refine wp_seq_k (fun K3 hK4 => ?_)
  refine wp_region_lit ?_
  refine seqK rfl (does_box (cs := #[.int .i64 vw1.Hi, .int .u64 vw1.Lo]) rfl (by kernel_rfl : _ = Value.agg #[.int .i64 vw1.Hi, .int .u64 vw1.Lo]) rfl HS ?_)
  intro b5 W6 HS7
  refine seqS2 (a' := ⟨#[.agg #[.int .i64 vw1.Hi, .int .u64 vw1.Lo], .int .i64 d2, .pointer (some ⟨b5, 0, none⟩), undef, .int .i64 0, .int .i64 0, undef, undef, undef, undef, undef, undef, undef, undef, undef, undef, undef, undef, undef, undef, undef, undef, undef, undef, undef, undef, undef, undef, undef, undef, undef, undef, undef, undef, undef, undef, undef, undef, undef, undef, undef, undef, undef, undef, undef, undef, undef, undef, undef, undef, undef, undef, undef, undef, undef, undef, undef, undef, undef, undef, undef], []⟩) (by kernel_rfl) ?_
  refine wpList_nil ?_
  refine hK4 _ _ ?_
  refine wp_seq_k (fun K9 hK10 => ?_)
  refine wp_seq_k (fun K11 hK12 => ?_)
  refine wp_region_lit ?_
  refine seqS2 (a' := ⟨#[.agg #[.int .i64 vw1.Hi, .int .u64 vw1.Lo], .int .i64 d2, .pointer (some ⟨b5, 0, none⟩), undef, .int .i64 0, .int .i64 0, undef, undef, undef, undef, .int .i64 d2, .bool (decide (d2 < 1)), undef, undef, undef, undef, undef, undef, undef, undef, undef, undef, undef, undef, undef, undef, undef, undef, undef, undef, undef, undef, undef, undef, undef, undef, undef, undef, undef, undef, undef, undef, undef, undef, undef, undef, undef, undef, undef, undef, undef, undef, undef, undef, undef, undef, undef, undef, undef, undef, undef], []⟩) (by kernel_rfl) ?_
  refine wpList_nil ?_
  refine hK12 _ _ ?_
  have hq_ := ite_some h; clear h; rcases hq_ with ⟨c14, h⟩ | ⟨c14, h⟩
  · have c14 : d2 < 1 := c14
    refine wpRwI 11 (x := (decide (d2 < 1))) (v := true) (by kernel_rfl) (decide_eq_true c14) ?_
    refine condT (by kernel_rfl) ?_
    refine wp_seq_k (fun K15 hK16 => ?_)
    refine wp_region_lit ?_
    refine seqS2 (a' := ⟨#[.agg #[.int .i64 vw1.Hi, .int .u64 vw1.Lo], .int .i64 d2, .pointer (some ⟨b5, 0, none⟩), undef, .int .i64 0, .int .i64 1, undef, undef, undef, undef, .int .i64 d2, .bool true, undef, undef, undef, undef, undef, undef, undef, undef, undef, undef, undef, undef, undef, undef, undef, undef, undef, undef, undef, undef, undef, undef, undef, undef, undef, undef, undef, undef, undef, undef, undef, undef, undef, undef, undef, undef, undef, undef, undef, undef, undef, undef, undef, undef, undef, undef, undef, undef, undef], []⟩) (by kernel_rfl) ?_
    refine wpList_nil ?_
    refine hK16 _ _ ?_
    refine wp_ret ?_
    refine hret _ _ ?_
    refine ends_still (v := Value.tuple #[.int .i64 0, .int .i64 1]) (by kernel_rfl) (by kernel_rfl) ?_
    have HS129 := HS7.drop
    injection h with h
    injection h with h0_ h
    subst h0_ h
    exact ⟨f, rfl, FM.le.refl _, HS129⟩
  · have c14 : ¬ (d2 < 1) := c14
    refine wpRwI 11 (x := (decide (d2 < 1))) (v := false) (by kernel_rfl) (decide_eq_false c14) ?_
    refine condF (by kernel_rfl) ?_
    refine wp_skip ?_
    refine hK10 _ _ ?_
    refine wp_seq_k (fun K17 hK18 => ?_)
    refine wp_region_lit ?_
    refine seqK rfl (does_run (run_loadN (n := 2) rfl Try.underlying94 rfl (by kernel_rfl) (by kernel_rfl : _ = Value.pointer (some ⟨b5, 0, none⟩)) (cs := [.int .i64 vw1.Hi, .int .u64 vw1.Lo]) rfl (HS7.cells 0 2 _ rfl)) ?_)
    refine seqK rfl (does_alloc (z := Value.agg #[.int .i64 0, .int .u64 0]) (cs := #[.int .i64 0, .int .u64 0]) rfl (by kernel_rfl) rfl HS7 ?_)
    intro b19 W20 HS21
    refine seqK rfl (does_store (n := 2) (vs := [.int .i64 vw1.Hi, .int .u64 vw1.Lo]) (cs' := #[.int .i64 vw1.Hi, .int .u64 vw1.Lo]) rfl (by kernel_rfl) (by kernel_rfl : _ = Value.pointer (some ⟨b19, 0, none⟩)) (by kernel_rfl : _ = Value.agg #[.int .i64 vw1.Hi, .int .u64 vw1.Lo]) rfl rfl (by intro u_ hu_; simp only [List.mem_cons, List.not_mem_nil, or_false] at hu_; rcases hu_ with rfl | rfl <;> rfl) HS21 (Nat.le_of_ble_eq_true rfl) (by kernel_rfl) ?_)
    intro W23 HS24
    refine wpList_nil ?_
    refine hK18 _ _ ?_
    refine wp_seq_k (fun K25 hK26 => ?_)
    refine wp_seq_k (fun K27 hK28 => ?_)
    refine wp_region_lit ?_
    refine seqL1 (by kernel_rfl) ?_
    refine seqK rfl (does_run (run_load rfl Try.underlying2 rfl (by kernel_rfl : _ = Value.pointer (some ⟨b5, 0, none⟩)) (HS24.u1.cell 0)) ?_)
    refine seqS1 (a' := ⟨#[.agg #[.int .i64 vw1.Hi, .int .u64 vw1.Lo], .int .i64 d2, .pointer (some ⟨b5, 0, none⟩), undef, .int .i64 0, .int .i64 0, .pointer (some ⟨b19, 0, none⟩), undef, undef, undef, .int .i64 d2, .bool false, .agg #[.int .i64 vw1.Hi, .int .u64 vw1.Lo], .pointer (some ⟨b5, 0, none⟩), .int .i64 vw1.Hi, .bool (decide (vw1.Hi < 0)), undef, undef, undef, undef, undef, undef, undef, undef, undef, undef, undef, undef, undef, undef, undef, undef, undef, undef, undef, undef, undef, undef, undef, undef, undef, undef, undef, undef, undef, undef, undef, undef, undef, undef, undef, undef, undef, undef, undef, undef, undef, undef, undef, undef, undef], []⟩) (by kernel_rfl) ?_
    refine wpList_nil ?_
    refine hK28 _ _ ?_
    have hq_ := bind_some h; clear h; obtain ⟨v29, hv46, h⟩ := hq_
    have J47 : ∀ (f39 : FM) (x44 : Int) (x45 : Int) (j43 : Nat → Value) (W41 : World) (a_ : Act), FM.le f f39 → some ((x44, x45)) = some v29 → St t W41 f39 ([(b19, .cells #[.int .i64 x44, .int .u64 x45] 94 (0, 0))] :: [(b5, .cells #[.int .i64 vw1.Hi, .int .u64 vw1.Lo] 94 (0, 0))] :: H) → a_ = ⟨#[.agg #[.int .i64 vw1.Hi, .int .u64 vw1.Lo], .int .i64 d2, .pointer (some ⟨b5, 0, none⟩), undef, .int .i64 0, .int .i64 0, .pointer (some ⟨b19, 0, none⟩), undef, undef, undef, .int .i64 d2, .bool false, .agg #[.int .i64 vw1.Hi, .int .u64 vw1.Lo], .pointer (some ⟨b5, 0, none⟩), .int .i64 vw1.Hi, (j43 0), (j43 1), (j43 2), undef, undef, undef, undef, undef, undef, undef, undef, undef, undef, undef, undef, undef, undef, undef, undef, undef, undef, undef, undef, undef, undef, undef, undef, undef, undef, undef, undef, undef, undef, undef, undef, undef, undef, undef, undef, undef, undef, undef, undef, undef, undef, undef], []⟩ → K25 a_ W41 := by
      intro f39 x44 x45 j43 W41 a_ L40 hj48 HS42  hfr_; subst hfr_
      injection hj48 with hj48; subst hj48; try dsimp only at h
      refine hK26 _ _ ?_
      refine wp_seq_k (fun K49 hK50 => ?_)
      refine wp_seq_k (fun K51 hK52 => ?_)
      refine wp_region_lit ?_
      refine seqL1 (by kernel_rfl) ?_
      refine seqK rfl (does_run (run_load rfl Try.underlying2 rfl (by kernel_rfl : _ = Value.pointer (some ⟨b19, 0, none⟩)) (HS42.cell 0)) ?_)
      refine seqS4 (a' := ⟨#[.agg #[.int .i64 vw1.Hi, .int .u64 vw1.Lo], .int .i64 d2, .pointer (some ⟨b5, 0, none⟩), undef, .int .i64 0, .int .i64 0, .pointer (some ⟨b19, 0, none⟩), undef, undef, undef, .int .i64 d2, .bool false, .agg #[.int .i64 vw1.Hi, .int .u64 vw1.Lo], .pointer (some ⟨b5, 0, none⟩), .int .i64 vw1.Hi, (j43 0), (j43 1), (j43 2), .pointer (some ⟨b19, 0, none⟩), .int .i64 x44, .int .u64 (u64 (x44)), .int .i64 d2, .int .u64 (u64 (d2)), .bool (decide ((u64 (x44)) ≥ (u64 (d2)))), undef, undef, undef, undef, undef, undef, undef, undef, undef, undef, undef, undef, undef, undef, undef, undef, undef, undef, undef, undef, undef, undef, undef, undef, undef, undef, undef, undef, undef, undef, undef, undef, undef, undef, undef, undef, undef], []⟩) (by kernel_rfl) ?_
      refine wpList_nil ?_
      refine hK52 _ _ ?_
      have hq_ := ite_some h; clear h; rcases hq_ with ⟨c54, h⟩ | ⟨c54, h⟩
      · have c54 : (u64 (x44)) ≥ (u64 (d2)) := c54
        refine wpRwI 23 (x := (decide ((u64 (x44)) ≥ (u64 (d2))))) (v := true) (by kernel_rfl) (decide_eq_true c54) ?_
        refine condT (by kernel_rfl) ?_
        refine wp_seq_k (fun K55 hK56 => ?_)
        refine wp_region_lit ?_
        refine seqS2 (a' := ⟨#[.agg #[.int .i64 vw1.Hi, .int .u64 vw1.Lo], .int .i64 d2, .pointer (some ⟨b5, 0, none⟩), undef, .int .i64 0, .int .i64 2, .pointer (some ⟨b19, 0, none⟩), undef, undef, undef, .int .i64 d2, .bool false, .agg #[.int .i64 vw1.Hi, .int .u64 vw1.Lo], .pointer (some ⟨b5, 0, none⟩), .int .i64 vw1.Hi, (j43 0), (j43 1), (j43 2), .pointer (some ⟨b19, 0, none⟩), .int .i64 x44, .int .u64 (u64 (x44)), .int .i64 d2, .int .u64 (u64 (d2)), .bool true, undef, undef, undef, undef, undef, undef, undef, undef, undef, undef, undef, undef, undef, undef, undef, undef, undef, undef, undef, undef, undef, undef, undef, undef, undef, undef, undef, undef, undef, undef, undef, undef, undef, undef, undef, undef, undef], []⟩) (by kernel_rfl) ?_
        refine wpList_nil ?_
        refine hK56 _ _ ?_
        refine wp_ret ?_
        refine hret _ _ ?_
        refine ends_still (v := Value.tuple #[.int .i64 0, .int .i64 2]) (by kernel_rfl) (by kernel_rfl) ?_
        have HS130 := HS42.drop
        have HS131 := HS130.drop
        injection h with h
        injection h with h0_ h
        subst h0_ h
        exact ⟨f39, rfl, L40, HS131⟩
      · have c54 : ¬ ((u64 (x44)) ≥ (u64 (d2))) := c54
        refine wpRwI 23 (x := (decide ((u64 (x44)) ≥ (u64 (d2))))) (v := false) (by kernel_rfl) (decide_eq_false c54) ?_
        refine condF (by kernel_rfl) ?_
        refine wp_skip ?_
        refine hK50 _ _ ?_
        refine wp_seq_k (fun K57 hK58 => ?_)
        refine wp_region_lit ?_
        refine seqL1 (by kernel_rfl) ?_
        refine seqK rfl (does_run (run_load rfl Try.underlying2 rfl (by kernel_rfl : _ = Value.pointer (some ⟨b19, 0, none⟩)) (HS42.cell 0)) ?_)
        refine seqL2 (by kernel_rfl) ?_
        refine seqK rfl (does_run (run_load rfl Try.underlying34 rfl (by kernel_rfl : _ = Value.pointer (some ⟨b19, 1, none⟩)) (HS42.cell 1)) ?_)
        have hq_ := bind_some h; clear h; obtain ⟨⟨vt59, vt60⟩, hc61, h⟩ := hq_
        refine seqL2 (by kernel_rfl) ?_
        refine seqK rfl (does_call (f := 83) (args := #[.int .u64 (u64 (x44)), .int .u64 x45, .int .u64 (u64 (d2))]) (by kernel_rfl) (bits_Div64.calls k (u64 (x44)) x45 (u64 (d2)) HS42 vt59 vt60 hc61) ?_)
        rintro _ W64 ⟨f62, rfl, L63, HS65⟩
        refine ⟨_, rfl, ?_⟩
        refine seqS5 (a' := ⟨#[.agg #[.int .i64 vw1.Hi, .int .u64 vw1.Lo], .int .i64 d2, .pointer (some ⟨b5, 0, none⟩), undef, .int .i64 0, .int .i64 0, .pointer (some ⟨b19, 0, none⟩), .int .u64 vt59, .int .u64 vt60, undef, .int .i64 d2, .bool false, .agg #[.int .i64 vw1.Hi, .int .u64 vw1.Lo], .pointer (some ⟨b5, 0, none⟩), .int .i64 vw1.Hi, (j43 0), (j43 1), (j43 2), .pointer (some ⟨b19, 0, none⟩), .int .i64 x44, .int .u64 (u64 (x44)), .int .i64 d2, .int .u64 (u64 (d2)), .bool false, .tuple #[.int .u64 vt59, .int .u64 vt60], .pointer (some ⟨b19, 0, none⟩), .int .i64 x44, .int .u64 (u64 (x44)), .pointer (some ⟨b19, 1, none⟩), .int .u64 x45, .int .i64 d2, .int .u64 (u64 (d2)), .tuple #[.int .u64 vt59, .int .u64 vt60], .int .u64 vt59, .int .u64 vt60, undef, undef, undef, undef, undef, undef, undef, undef, undef, undef, undef, undef, undef, undef, undef, undef, undef, undef, undef, undef, undef, undef, undef, undef, undef, undef], []⟩) (by kernel_rfl) ?_
        refine wpList_nil ?_
        refine hK58 _ _ ?_
        refine wp_seq_k (fun K66 hK67 => ?_)
        refine wp_region_lit ?_
        refine seqS1 (a' := ⟨#[.agg #[.int .i64 vw1.Hi, .int .u64 vw1.Lo], .int .i64 d2, .pointer (some ⟨b5, 0, none⟩), undef, .int .i64 0, .int .i64 0, .pointer (some ⟨b19, 0, none⟩), .int .u64 vt59, .int .u64 vt60, .int .u64 9223372036854775807, .int .i64 d2, .bool false, .agg #[.int .i64 vw1.Hi, .int .u64 vw1.Lo], .pointer (some ⟨b5, 0, none⟩), .int .i64 vw1.Hi, (j43 0), (j43 1), (j43 2), .pointer (some ⟨b19, 0, none⟩), .int .i64 x44, .int .u64 (u64 (x44)), .int .i64 d2, .int .u64 (u64 (d2)), .bool false, .tuple #[.int .u64 vt59, .int .u64 vt60], .pointer (some ⟨b19, 0, none⟩), .int .i64 x44, .int .u64 (u64 (x44)), .pointer (some ⟨b19, 1, none⟩), .int .u64 x45, .int .i64 d2, .int .u64 (u64 (d2)), .tuple #[.int .u64 vt59, .int .u64 vt60], .int .u64 vt59, .int .u64 vt60, undef, undef, undef, undef, undef, undef, undef, undef, undef, undef, undef, undef, undef, undef, undef, undef, undef, undef, undef, undef, undef, undef, undef, undef, undef, undef], []⟩) (by kernel_rfl) ?_
        refine wpList_nil ?_
        refine hK67 _ _ ?_
        refine wp_seq_k (fun K68 hK69 => ?_)
        refine wp_seq_k (fun K70 hK71 => ?_)
        refine wp_region_lit ?_
        refine seqL1 (by kernel_rfl) ?_
        refine seqK rfl (does_run (run_load rfl Try.underlying2 rfl (by kernel_rfl : _ = Value.pointer (some ⟨b5, 0, none⟩)) (HS65.u1.cell 0)) ?_)
        refine seqS1 (a' := ⟨#[.agg #[.int .i64 vw1.Hi, .int .u64 vw1.Lo], .int .i64 d2, .pointer (some ⟨b5, 0, none⟩), undef, .int .i64 0, .int .i64 0, .pointer (some ⟨b19, 0, none⟩), .int .u64 vt59, .int .u64 vt60, .int .u64 9223372036854775807, .int .i64 d2, .bool false, .agg #[.int .i64 vw1.Hi, .int .u64 vw1.Lo], .pointer (some ⟨b5, 0, none⟩), .int .i64 vw1.Hi, (j43 0), (j43 1), (j43 2), .pointer (some ⟨b19, 0, none⟩), .int .i64 x44, .int .u64 (u64 (x44)), .int .i64 d2, .int .u64 (u64 (d2)), .bool false, .tuple #[.int .u64 vt59, .int .u64 vt60], .pointer (some ⟨b19, 0, none⟩), .int .i64 x44, .int .u64 (u64 (x44)), .pointer (some ⟨b19, 1, none⟩), .int .u64 x45, .int .i64 d2, .int .u64 (u64 (d2)), .tuple #[.int .u64 vt59, .int .u64 vt60], .int .u64 vt59, .int .u64 vt60, .pointer (some ⟨b5, 0, none⟩), .int .i64 vw1.Hi, .bool (decide (vw1.Hi < 0)), undef, undef, undef, undef, undef, undef, undef, undef, undef, undef, undef, undef, undef, undef, undef, undef, undef, undef, undef, undef, undef, undef, undef], []⟩) (by kernel_rfl) ?_
        refine wpList_nil ?_
        refine hK71 _ _ ?_
        have hq_ := bind_some h; clear h; obtain ⟨v72, hv95, h⟩ := hq_
        have J96 : ∀ (f89 : FM) (most94 : Int) (j93 : Nat → Value) (W91 : World) (a_ : Act), FM.le f62 f89 → some (most94) = some v72 → St t W91 f89 ([(b19, .cells #[.int .i64 x44, .int .u64 x45] 94 (0, 0))] :: [(b5, .cells #[.int .i64 vw1.Hi, .int .u64 vw1.Lo] 94 (0, 0))] :: H) → a_ = ⟨#[.agg #[.int .i64 vw1.Hi, .int .u64 vw1.Lo], .int .i64 d2, .pointer (some ⟨b5, 0, none⟩), undef, .int .i64 0, .int .i64 0, .pointer (some ⟨b19, 0, none⟩), .int .u64 vt59, .int .u64 vt60, .int .u64 most94, .int .i64 d2, .bool false, .agg #[.int .i64 vw1.Hi, .int .u64 vw1.Lo], .pointer (some ⟨b5, 0, none⟩), .int .i64 vw1.Hi, (j43 0), (j43 1), (j43 2), .pointer (some ⟨b19, 0, none⟩), .int .i64 x44, .int .u64 (u64 (x44)), .int .i64 d2, .int .u64 (u64 (d2)), .bool false, .tuple #[.int .u64 vt59, .int .u64 vt60], .pointer (some ⟨b19, 0, none⟩), .int .i64 x44, .int .u64 (u64 (x44)), .pointer (some ⟨b19, 1, none⟩), .int .u64 x45, .int .i64 d2, .int .u64 (u64 (d2)), .tuple #[.int .u64 vt59, .int .u64 vt60], .int .u64 vt59, .int .u64 vt60, .pointer (some ⟨b5, 0, none⟩), .int .i64 vw1.Hi, (j93 0), (j93 1), (j93 2), (j93 3), (j93 4), undef, undef, undef, undef, undef, undef, undef, undef, undef, undef, undef, undef, undef, undef, undef, undef, undef, undef, undef], []⟩ → K68 a_ W91 := by
          intro f89 most94 j93 W91 a_ L90 hj97 HS92  hfr_; subst hfr_
          injection hj97 with hj97; subst hj97; try dsimp only at h
          refine hK69 _ _ ?_
          refine wp_seq_k (fun K98 hK99 => ?_)
          refine wp_seq_k (fun K100 hK101 => ?_)
          refine wp_region_lit ?_
          refine seqS3 (a' := ⟨#[.agg #[.int .i64 vw1.Hi, .int .u64 vw1.Lo], .int .i64 d2, .pointer (some ⟨b5, 0, none⟩), undef, .int .i64 0, .int .i64 0, .pointer (some ⟨b19, 0, none⟩), .int .u64 vt59, .int .u64 vt60, .int .u64 most94, .int .i64 d2, .bool false, .agg #[.int .i64 vw1.Hi, .int .u64 vw1.Lo], .pointer (some ⟨b5, 0, none⟩), .int .i64 vw1.Hi, (j43 0), (j43 1), (j43 2), .pointer (some ⟨b19, 0, none⟩), .int .i64 x44, .int .u64 (u64 (x44)), .int .i64 d2, .int .u64 (u64 (d2)), .bool false, .tuple #[.int .u64 vt59, .int .u64 vt60], .pointer (some ⟨b19, 0, none⟩), .int .i64 x44, .int .u64 (u64 (x44)), .pointer (some ⟨b19, 1, none⟩), .int .u64 x45, .int .i64 d2, .int .u64 (u64 (d2)), .tuple #[.int .u64 vt59, .int .u64 vt60], .int .u64 vt59, .int .u64 vt60, .pointer (some ⟨b5, 0, none⟩), .int .i64 vw1.Hi, (j93 0), (j93 1), (j93 2), (j93 3), (j93 4), .int .u64 vt59, .int .u64 most94, .bool (decide (vt59 > most94)), undef, undef, undef, undef, undef, undef, undef, undef, undef, undef, undef, undef, undef, undef, undef, undef], []⟩) (by kernel_rfl) ?_
          refine wpList_nil ?_
          refine hK101 _ _ ?_
          have hq_ := ite_some h; clear h; rcases hq_ with ⟨c103, h⟩ | ⟨c103, h⟩
          · have c103 : vt59 > most94 := c103
            refine wpRwI 44 (x := (decide (vt59 > most94))) (v := true) (by kernel_rfl) (decide_eq_true c103) ?_
            refine condT (by kernel_rfl) ?_
            refine wp_seq_k (fun K104 hK105 => ?_)
            refine wp_region_lit ?_
            refine seqS2 (a' := ⟨#[.agg #[.int .i64 vw1.Hi, .int .u64 vw1.Lo], .int .i64 d2, .pointer (some ⟨b5, 0, none⟩), undef, .int .i64 0, .int .i64 2, .pointer (some ⟨b19, 0, none⟩), .int .u64 vt59, .int .u64 vt60, .int .u64 most94, .int .i64 d2, .bool false, .agg #[.int .i64 vw1.Hi, .int .u64 vw1.Lo], .pointer (some ⟨b5, 0, none⟩), .int .i64 vw1.Hi, (j43 0), (j43 1), (j43 2), .pointer (some ⟨b19, 0, none⟩), .int .i64 x44, .int .u64 (u64 (x44)), .int .i64 d2, .int .u64 (u64 (d2)), .bool false, .tuple #[.int .u64 vt59, .int .u64 vt60], .pointer (some ⟨b19, 0, none⟩), .int .i64 x44, .int .u64 (u64 (x44)), .pointer (some ⟨b19, 1, none⟩), .int .u64 x45, .int .i64 d2, .int .u64 (u64 (d2)), .tuple #[.int .u64 vt59, .int .u64 vt60], .int .u64 vt59, .int .u64 vt60, .pointer (some ⟨b5, 0, none⟩), .int .i64 vw1.Hi, (j93 0), (j93 1), (j93 2), (j93 3), (j93 4), .int .u64 vt59, .int .u64 most94, .bool true, undef, undef, undef, undef, undef, undef, undef, undef, undef, undef, undef, undef, undef, undef, undef, undef], []⟩) (by kernel_rfl) ?_
            refine wpList_nil ?_
            refine hK105 _ _ ?_
            refine wp_ret ?_
            refine hret _ _ ?_
            refine ends_still (v := Value.tuple #[.int .i64 0, .int .i64 2]) (by kernel_rfl) (by kernel_rfl) ?_
            have HS132 := HS92.drop
            have HS133 := HS132.drop
            injection h with h
            injection h with h0_ h
            subst h0_ h
            exact ⟨f89, rfl, (L40.trans (L63.trans L90)), HS133⟩
          · have c103 : ¬ (vt59 > most94) := c103
            refine wpRwI 44 (x := (decide (vt59 > most94))) (v := false) (by kernel_rfl) (decide_eq_false c103) ?_
            refine condF (by kernel_rfl) ?_
            refine wp_skip ?_
            refine hK99 _ _ ?_
            refine wp_seq_k (fun K106 hK107 => ?_)
            refine blockK (fun B108 hx109 hn110 hr111 ho112 hp113 => ?_)
            refine wp_seq_k (fun K115 hK116 => ?_)
            refine wp_region_lit ?_
            refine seqL1 (by kernel_rfl) ?_
            refine seqK rfl (does_run (run_load rfl Try.underlying2 rfl (by kernel_rfl : _ = Value.pointer (some ⟨b5, 0, none⟩)) (HS92.u1.cell 0)) ?_)
            refine seqS2 (a' := ⟨#[.agg #[.int .i64 vw1.Hi, .int .u64 vw1.Lo], .int .i64 d2, .pointer (some ⟨b5, 0, none⟩), undef, .int .i64 0, .int .i64 0, .pointer (some ⟨b19, 0, none⟩), .int .u64 vt59, .int .u64 vt60, .int .u64 most94, .int .i64 d2, .bool false, .agg #[.int .i64 vw1.Hi, .int .u64 vw1.Lo], .pointer (some ⟨b5, 0, none⟩), .int .i64 vw1.Hi, (j43 0), (j43 1), (j43 2), .pointer (some ⟨b19, 0, none⟩), .int .i64 x44, .int .u64 (u64 (x44)), .int .i64 d2, .int .u64 (u64 (d2)), .bool false, .tuple #[.int .u64 vt59, .int .u64 vt60], .pointer (some ⟨b19, 0, none⟩), .int .i64 x44, .int .u64 (u64 (x44)), .pointer (some ⟨b19, 1, none⟩), .int .u64 x45, .int .i64 d2, .int .u64 (u64 (d2)), .tuple #[.int .u64 vt59, .int .u64 vt60], .int .u64 vt59, .int .u64 vt60, .pointer (some ⟨b5, 0, none⟩), .int .i64 vw1.Hi, (j93 0), (j93 1), (j93 2), (j93 3), (j93 4), .int .u64 vt59, .int .u64 most94, .bool false, .bool (decide (vw1.Hi ≥ 0)), .pointer (some ⟨b5, 0, none⟩), .int .i64 vw1.Hi, .bool (decide (vw1.Hi ≥ 0)), undef, undef, undef, undef, undef, undef, undef, undef, undef, undef, undef, undef], []⟩) (by kernel_rfl) ?_
            refine wpList_nil ?_
            refine hK116 _ _ ?_
            have hq_ := ite_some h; clear h; rcases hq_ with ⟨c118, h⟩ | ⟨c118, h⟩
            · have c118 : vw1.Hi ≥ 0 := c118
              refine wpRwI 45 (x := (decide (vw1.Hi ≥ 0))) (v := true) (by kernel_rfl) (decide_eq_true c118) ?_
              refine wpRwI 48 (x := (decide (vw1.Hi ≥ 0))) (v := true) (by kernel_rfl) (decide_eq_true c118) ?_
              refine condT (by kernel_rfl) ?_
              refine wp_seq_k (fun K119 hK120 => ?_)
              refine wp_region_lit ?_
              refine seqS4 (a' := ⟨#[.agg #[.int .i64 vw1.Hi, .int .u64 vw1.Lo], .int .i64 d2, .pointer (some ⟨b5, 0, none⟩), undef, .int .i64 (w64 (vt59)), .int .i64 0, .pointer (some ⟨b19, 0, none⟩), .int .u64 vt59, .int .u64 vt60, .int .u64 most94, .int .i64 d2, .bool false, .agg #[.int .i64 vw1.Hi, .int .u64 vw1.Lo], .pointer (some ⟨b5, 0, none⟩), .int .i64 vw1.Hi, (j43 0), (j43 1), (j43 2), .pointer (some ⟨b19, 0, none⟩), .int .i64 x44, .int .u64 (u64 (x44)), .int .i64 d2, .int .u64 (u64 (d2)), .bool false, .tuple #[.int .u64 vt59, .int .u64 vt60], .pointer (some ⟨b19, 0, none⟩), .int .i64 x44, .int .u64 (u64 (x44)), .pointer (some ⟨b19, 1, none⟩), .int .u64 x45, .int .i64 d2, .int .u64 (u64 (d2)), .tuple #[.int .u64 vt59, .int .u64 vt60], .int .u64 vt59, .int .u64 vt60, .pointer (some ⟨b5, 0, none⟩), .int .i64 vw1.Hi, (j93 0), (j93 1), (j93 2), (j93 3), (j93 4), .int .u64 vt59, .int .u64 most94, .bool false, .bool true, .pointer (some ⟨b5, 0, none⟩), .int .i64 vw1.Hi, .bool true, .int .u64 vt59, .int .i64 (w64 (vt59)), undef, undef, undef, undef, undef, undef, undef, undef, undef, undef], []⟩) (by kernel_rfl) ?_
              refine wpList_nil ?_
              refine hK120 _ _ ?_
              refine wp_ret ?_
              refine hr111 _ _ ?_
              refine hret _ _ ?_
              refine ends_still (v := Value.tuple #[.int .i64 (w64 (vt59)), .int .i64 0]) (by kernel_rfl) (by kernel_rfl) ?_
              have HS134 := HS92.drop
              have HS135 := HS134.drop
              injection h with h
              injection h with h0_ h
              subst h0_ h
              exact ⟨f89, rfl, (L40.trans (L63.trans L90)), HS135⟩
            · have c118 : ¬ (vw1.Hi ≥ 0) := c118
              refine wpRwI 45 (x := (decide (vw1.Hi ≥ 0))) (v := false) (by kernel_rfl) (decide_eq_false c118) ?_
              refine wpRwI 48 (x := (decide (vw1.Hi ≥ 0))) (v := false) (by kernel_rfl) (decide_eq_false c118) ?_
              refine condF (by kernel_rfl) ?_
              refine wp_seq_k (fun K121 hK122 => ?_)
              refine wp_region_lit ?_
              refine seqS3 (a' := ⟨#[.agg #[.int .i64 vw1.Hi, .int .u64 vw1.Lo], .int .i64 d2, .pointer (some ⟨b5, 0, none⟩), undef, .int .i64 0, .int .i64 0, .pointer (some ⟨b19, 0, none⟩), .int .u64 vt59, .int .u64 vt60, .int .u64 most94, .int .i64 d2, .bool false, .agg #[.int .i64 vw1.Hi, .int .u64 vw1.Lo], .pointer (some ⟨b5, 0, none⟩), .int .i64 vw1.Hi, (j43 0), (j43 1), (j43 2), .pointer (some ⟨b19, 0, none⟩), .int .i64 x44, .int .u64 (u64 (x44)), .int .i64 d2, .int .u64 (u64 (d2)), .bool false, .tuple #[.int .u64 vt59, .int .u64 vt60], .pointer (some ⟨b19, 0, none⟩), .int .i64 x44, .int .u64 (u64 (x44)), .pointer (some ⟨b19, 1, none⟩), .int .u64 x45, .int .i64 d2, .int .u64 (u64 (d2)), .tuple #[.int .u64 vt59, .int .u64 vt60], .int .u64 vt59, .int .u64 vt60, .pointer (some ⟨b5, 0, none⟩), .int .i64 vw1.Hi, (j93 0), (j93 1), (j93 2), (j93 3), (j93 4), .int .u64 vt59, .int .u64 most94, .bool false, .bool false, .pointer (some ⟨b5, 0, none⟩), .int .i64 vw1.Hi, .bool false, undef, undef, .bool (decide (vt60 > 0)), .int .u64 vt60, .bool (decide (vt60 > 0)), undef, undef, undef, undef, undef, undef, undef], []⟩) (by kernel_rfl) ?_
              refine wpList_nil ?_
              refine hK122 _ _ ?_
              have hq_ := ite_some h; clear h; rcases hq_ with ⟨c124, h⟩ | ⟨c124, h⟩
              · have c124 : vt60 > 0 := c124
                refine wpRwI 51 (x := (decide (vt60 > 0))) (v := true) (by kernel_rfl) (decide_eq_true c124) ?_
                refine wpRwI 53 (x := (decide (vt60 > 0))) (v := true) (by kernel_rfl) (decide_eq_true c124) ?_
                refine condT (by kernel_rfl) ?_
                refine wp_seq_k (fun K125 hK126 => ?_)
                refine wp_region_lit ?_
                refine seqS6 (a' := ⟨#[.agg #[.int .i64 vw1.Hi, .int .u64 vw1.Lo], .int .i64 d2, .pointer (some ⟨b5, 0, none⟩), undef, .int .i64 (w64 ((w64 (u64 (0 - vt59))) - 1)), .int .i64 0, .pointer (some ⟨b19, 0, none⟩), .int .u64 vt59, .int .u64 vt60, .int .u64 most94, .int .i64 d2, .bool false, .agg #[.int .i64 vw1.Hi, .int .u64 vw1.Lo], .pointer (some ⟨b5, 0, none⟩), .int .i64 vw1.Hi, (j43 0), (j43 1), (j43 2), .pointer (some ⟨b19, 0, none⟩), .int .i64 x44, .int .u64 (u64 (x44)), .int .i64 d2, .int .u64 (u64 (d2)), .bool false, .tuple #[.int .u64 vt59, .int .u64 vt60], .pointer (some ⟨b19, 0, none⟩), .int .i64 x44, .int .u64 (u64 (x44)), .pointer (some ⟨b19, 1, none⟩), .int .u64 x45, .int .i64 d2, .int .u64 (u64 (d2)), .tuple #[.int .u64 vt59, .int .u64 vt60], .int .u64 vt59, .int .u64 vt60, .pointer (some ⟨b5, 0, none⟩), .int .i64 vw1.Hi, (j93 0), (j93 1), (j93 2), (j93 3), (j93 4), .int .u64 vt59, .int .u64 most94, .bool false, .bool false, .pointer (some ⟨b5, 0, none⟩), .int .i64 vw1.Hi, .bool false, undef, undef, .bool true, .int .u64 vt60, .bool true, .int .u64 vt59, .int .u64 (u64 (0 - vt59)), .int .i64 (w64 (u64 (0 - vt59))), .int .i64 (w64 ((w64 (u64 (0 - vt59))) - 1)), undef, undef, undef], []⟩) (by kernel_rfl) ?_
                refine wpList_nil ?_
                refine hK126 _ _ ?_
                refine wp_ret ?_
                refine hr111 _ _ ?_
                refine hret _ _ ?_
                refine ends_still (v := Value.tuple #[.int .i64 (w64 ((w64 (u64 (0 - vt59))) - 1)), .int .i64 0]) (by kernel_rfl) (by kernel_rfl) ?_
                have HS136 := HS92.drop
                have HS137 := HS136.drop
                injection h with h
                injection h with h0_ h
                subst h0_ h
                exact ⟨f89, rfl, (L40.trans (L63.trans L90)), HS137⟩
              · have c124 : ¬ (vt60 > 0) := c124
                refine wpRwI 51 (x := (decide (vt60 > 0))) (v := false) (by kernel_rfl) (decide_eq_false c124) ?_
                refine wpRwI 53 (x := (decide (vt60 > 0))) (v := false) (by kernel_rfl) (decide_eq_false c124) ?_
                refine condF (by kernel_rfl) ?_
                refine wp_skip ?_
                refine hn110 _ _ ?_
                refine hK107 _ _ ?_
                refine wp_seq_k (fun K127 hK128 => ?_)
                refine wp_region_lit ?_
                refine seqS5 (a' := ⟨#[.agg #[.int .i64 vw1.Hi, .int .u64 vw1.Lo], .int .i64 d2, .pointer (some ⟨b5, 0, none⟩), undef, .int .i64 (w64 (u64 (0 - vt59))), .int .i64 0, .pointer (some ⟨b19, 0, none⟩), .int .u64 vt59, .int .u64 vt60, .int .u64 most94, .int .i64 d2, .bool false, .agg #[.int .i64 vw1.Hi, .int .u64 vw1.Lo], .pointer (some ⟨b5, 0, none⟩), .int .i64 vw1.Hi, (j43 0), (j43 1), (j43 2), .pointer (some ⟨b19, 0, none⟩), .int .i64 x44, .int .u64 (u64 (x44)), .int .i64 d2, .int .u64 (u64 (d2)), .bool false, .tuple #[.int .u64 vt59, .int .u64 vt60], .pointer (some ⟨b19, 0, none⟩), .int .i64 x44, .int .u64 (u64 (x44)), .pointer (some ⟨b19, 1, none⟩), .int .u64 x45, .int .i64 d2, .int .u64 (u64 (d2)), .tuple #[.int .u64 vt59, .int .u64 vt60], .int .u64 vt59, .int .u64 vt60, .pointer (some ⟨b5, 0, none⟩), .int .i64 vw1.Hi, (j93 0), (j93 1), (j93 2), (j93 3), (j93 4), .int .u64 vt59, .int .u64 most94, .bool false, .bool false, .pointer (some ⟨b5, 0, none⟩), .int .i64 vw1.Hi, .bool false, undef, undef, .bool false, .int .u64 vt60, .bool false, undef, undef, undef, undef, .int .u64 vt59, .int .u64 (u64 (0 - vt59)), .int .i64 (w64 (u64 (0 - vt59)))], []⟩) (by kernel_rfl) ?_
                refine wpList_nil ?_
                refine hK128 _ _ ?_
                refine wp_ret ?_
                refine hret _ _ ?_
                refine ends_still (v := Value.tuple #[.int .i64 (w64 (u64 (0 - vt59))), .int .i64 0]) (by kernel_rfl) (by kernel_rfl) ?_
                have HS138 := HS92.drop
                have HS139 := HS138.drop
                injection h with h
                injection h with h0_ h
                subst h0_ h
                exact ⟨f89, rfl, (L40.trans (L63.trans L90)), HS139⟩
        clear h; have h := hv95; clear hv95
        have hq_ := ite_some h; clear h; rcases hq_ with ⟨c73, h⟩ | ⟨c73, h⟩
        · have c73 : vw1.Hi < 0 := c73
          refine wpRwI 37 (x := (decide (vw1.Hi < 0))) (v := true) (by kernel_rfl) (decide_eq_true c73) ?_
          refine condT (by kernel_rfl) ?_
          refine wp_seq_k (fun K74 hK75 => ?_)
          refine wp_region_lit ?_
          refine seqS1 (a' := ⟨#[.agg #[.int .i64 vw1.Hi, .int .u64 vw1.Lo], .int .i64 d2, .pointer (some ⟨b5, 0, none⟩), undef, .int .i64 0, .int .i64 0, .pointer (some ⟨b19, 0, none⟩), .int .u64 vt59, .int .u64 vt60, .int .u64 9223372036854775808, .int .i64 d2, .bool false, .agg #[.int .i64 vw1.Hi, .int .u64 vw1.Lo], .pointer (some ⟨b5, 0, none⟩), .int .i64 vw1.Hi, (j43 0), (j43 1), (j43 2), .pointer (some ⟨b19, 0, none⟩), .int .i64 x44, .int .u64 (u64 (x44)), .int .i64 d2, .int .u64 (u64 (d2)), .bool false, .tuple #[.int .u64 vt59, .int .u64 vt60], .pointer (some ⟨b19, 0, none⟩), .int .i64 x44, .int .u64 (u64 (x44)), .pointer (some ⟨b19, 1, none⟩), .int .u64 x45, .int .i64 d2, .int .u64 (u64 (d2)), .tuple #[.int .u64 vt59, .int .u64 vt60], .int .u64 vt59, .int .u64 vt60, .pointer (some ⟨b5, 0, none⟩), .int .i64 vw1.Hi, .bool true, undef, undef, undef, undef, undef, undef, undef, undef, undef, undef, undef, undef, undef, undef, undef, undef, undef, undef, undef, undef, undef, undef, undef], []⟩) (by kernel_rfl) ?_
          refine wpList_nil ?_
          refine hK75 _ _ ?_
          refine wp_seq_k (fun K76 hK77 => ?_)
          refine wp_region_lit ?_
          refine seqS2 (a' := ⟨#[.agg #[.int .i64 vw1.Hi, .int .u64 vw1.Lo], .int .i64 d2, .pointer (some ⟨b5, 0, none⟩), undef, .int .i64 0, .int .i64 0, .pointer (some ⟨b19, 0, none⟩), .int .u64 vt59, .int .u64 vt60, .int .u64 9223372036854775808, .int .i64 d2, .bool false, .agg #[.int .i64 vw1.Hi, .int .u64 vw1.Lo], .pointer (some ⟨b5, 0, none⟩), .int .i64 vw1.Hi, (j43 0), (j43 1), (j43 2), .pointer (some ⟨b19, 0, none⟩), .int .i64 x44, .int .u64 (u64 (x44)), .int .i64 d2, .int .u64 (u64 (d2)), .bool false, .tuple #[.int .u64 vt59, .int .u64 vt60], .pointer (some ⟨b19, 0, none⟩), .int .i64 x44, .int .u64 (u64 (x44)), .pointer (some ⟨b19, 1, none⟩), .int .u64 x45, .int .i64 d2, .int .u64 (u64 (d2)), .tuple #[.int .u64 vt59, .int .u64 vt60], .int .u64 vt59, .int .u64 vt60, .pointer (some ⟨b5, 0, none⟩), .int .i64 vw1.Hi, .bool true, .int .u64 vt60, .bool (decide (vt60 > 0)), undef, undef, undef, undef, undef, undef, undef, undef, undef, undef, undef, undef, undef, undef, undef, undef, undef, undef, undef, undef, undef], []⟩) (by kernel_rfl) ?_
          refine wpList_nil ?_
          refine hK77 _ _ ?_
          have hq_ := bind_some h; clear h; obtain ⟨v78, hv86, h⟩ := hq_
          have J87 : ∀ (f80 : FM) (most85 : Int) (j84 : Nat → Value) (W82 : World) (a_ : Act), FM.le f62 f80 → some (most85) = some v78 → St t W82 f80 ([(b19, .cells #[.int .i64 x44, .int .u64 x45] 94 (0, 0))] :: [(b5, .cells #[.int .i64 vw1.Hi, .int .u64 vw1.Lo] 94 (0, 0))] :: H) → a_ = ⟨#[.agg #[.int .i64 vw1.Hi, .int .u64 vw1.Lo], .int .i64 d2, .pointer (some ⟨b5, 0, none⟩), undef, .int .i64 0, .int .i64 0, .pointer (some ⟨b19, 0, none⟩), .int .u64 vt59, .int .u64 vt60, .int .u64 most85, .int .i64 d2, .bool false, .agg #[.int .i64 vw1.Hi, .int .u64 vw1.Lo], .pointer (some ⟨b5, 0, none⟩), .int .i64 vw1.Hi, (j43 0), (j43 1), (j43 2), .pointer (some ⟨b19, 0, none⟩), .int .i64 x44, .int .u64 (u64 (x44)), .int .i64 d2, .int .u64 (u64 (d2)), .bool false, .tuple #[.int .u64 vt59, .int .u64 vt60], .pointer (some ⟨b19, 0, none⟩), .int .i64 x44, .int .u64 (u64 (x44)), .pointer (some ⟨b19, 1, none⟩), .int .u64 x45, .int .i64 d2, .int .u64 (u64 (d2)), .tuple #[.int .u64 vt59, .int .u64 vt60], .int .u64 vt59, .int .u64 vt60, .pointer (some ⟨b5, 0, none⟩), .int .i64 vw1.Hi, .bool true, .int .u64 vt60, (j84 0), (j84 1), (j84 2), undef, undef, undef, undef, undef, undef, undef, undef, undef, undef, undef, undef, undef, undef, undef, undef, undef, undef, undef], []⟩ → K68 a_ W82 := by
            intro f80 most85 j84 W82 a_ L81 hj88 HS83  hfr_; subst hfr_
            injection hj88 with hj88; subst hj88; try dsimp only at h
            exact J96 f80 most85 (fun i_ => [Value.bool true, Value.int .u64 vt60, (j84 0), (j84 1), (j84 2)].getD i_ undef) W82 _ L81 h HS83 (by kernel_rfl)
          clear h; have h := hv86; clear hv86
          have hq_ := ite_some h; clear h; rcases hq_ with ⟨c79, h⟩ | ⟨c79, h⟩
          · have c79 : vt60 > 0 := c79
            refine wpRwI 39 (x := (decide (vt60 > 0))) (v := true) (by kernel_rfl) (decide_eq_true c79) ?_
            refine condT (by kernel_rfl) ?_
            refine wp_region_lit ?_
            refine seqS3 (a' := ⟨#[.agg #[.int .i64 vw1.Hi, .int .u64 vw1.Lo], .int .i64 d2, .pointer (some ⟨b5, 0, none⟩), undef, .int .i64 0, .int .i64 0, .pointer (some ⟨b19, 0, none⟩), .int .u64 vt59, .int .u64 vt60, .int .u64 (u64 (9223372036854775808 - 1)), .int .i64 d2, .bool false, .agg #[.int .i64 vw1.Hi, .int .u64 vw1.Lo], .pointer (some ⟨b5, 0, none⟩), .int .i64 vw1.Hi, (j43 0), (j43 1), (j43 2), .pointer (some ⟨b19, 0, none⟩), .int .i64 x44, .int .u64 (u64 (x44)), .int .i64 d2, .int .u64 (u64 (d2)), .bool false, .tuple #[.int .u64 vt59, .int .u64 vt60], .pointer (some ⟨b19, 0, none⟩), .int .i64 x44, .int .u64 (u64 (x44)), .pointer (some ⟨b19, 1, none⟩), .int .u64 x45, .int .i64 d2, .int .u64 (u64 (d2)), .tuple #[.int .u64 vt59, .int .u64 vt60], .int .u64 vt59, .int .u64 vt60, .pointer (some ⟨b5, 0, none⟩), .int .i64 vw1.Hi, .bool true, .int .u64 vt60, .bool true, .int .u64 9223372036854775808, .int .u64 (u64 (9223372036854775808 - 1)), undef, undef, undef, undef, undef, undef, undef, undef, undef, undef, undef, undef, undef, undef, undef, undef, undef, undef, undef], []⟩) (by kernel_rfl) ?_
            refine wpList_nil ?_
            exact J87 f62 (u64 (9223372036854775808 - 1)) (fun i_ => [Value.bool true, Value.int .u64 9223372036854775808, Value.int .u64 (u64 (9223372036854775808 - 1))].getD i_ undef) W64 _ (FM.le.refl _) h HS65 (by kernel_rfl)
          · have c79 : ¬ (vt60 > 0) := c79
            refine wpRwI 39 (x := (decide (vt60 > 0))) (v := false) (by kernel_rfl) (decide_eq_false c79) ?_
            refine condF (by kernel_rfl) ?_
            refine wp_skip ?_
            exact J87 f62 9223372036854775808 (fun i_ => [Value.bool false, undef, undef].getD i_ undef) W64 _ (FM.le.refl _) h HS65 (by kernel_rfl)
        · have c73 : ¬ (vw1.Hi < 0) := c73
          refine wpRwI 37 (x := (decide (vw1.Hi < 0))) (v := false) (by kernel_rfl) (decide_eq_false c73) ?_
          refine condF (by kernel_rfl) ?_
          refine wp_skip ?_
          exact J96 f62 9223372036854775807 (fun i_ => [Value.bool false, undef, undef, undef, undef].getD i_ undef) W64 _ (FM.le.refl _) h HS65 (by kernel_rfl)
    clear h; have h := hv46; clear hv46
    have hq_ := ite_some h; clear h; rcases hq_ with ⟨c30, h⟩ | ⟨c30, h⟩
    · have c30 : vw1.Hi < 0 := c30
      refine wpRwI 15 (x := (decide (vw1.Hi < 0))) (v := true) (by kernel_rfl) (decide_eq_true c30) ?_
      refine condT (by kernel_rfl) ?_
      refine wp_region_lit ?_
      refine seqK rfl (does_run (run_loadN (n := 2) rfl Try.underlying94 rfl (by kernel_rfl) (by kernel_rfl : _ = Value.pointer (some ⟨b5, 0, none⟩)) (cs := [.int .i64 vw1.Hi, .int .u64 vw1.Lo]) rfl (HS24.u1.cells 0 2 _ rfl)) ?_)
      have hq_ := bind_some h; clear h; obtain ⟨vt31, hc32, h⟩ := hq_
      refine seqK rfl (does_call (f := 82) (args := #[.agg #[.int .i64 vw1.Hi, .int .u64 vw1.Lo]]) (by kernel_rfl) (num_Wide_Neg.calls k vw1 HS24 vt31 hc32) ?_)
      rintro _ W35 ⟨f33, rfl, L34, HS36⟩
      refine ⟨_, rfl, ?_⟩
      refine seqK rfl (does_store (n := 2) (vs := [.int .i64 vt31.Hi, .int .u64 vt31.Lo]) (cs' := #[.int .i64 vt31.Hi, .int .u64 vt31.Lo]) rfl (by kernel_rfl) (by kernel_rfl : _ = Value.pointer (some ⟨b19, 0, none⟩)) (by kernel_rfl : _ = Value.agg #[.int .i64 vt31.Hi, .int .u64 vt31.Lo]) rfl rfl (by intro u_ hu_; simp only [List.mem_cons, List.not_mem_nil, or_false] at hu_; rcases hu_ with rfl | rfl <;> rfl) HS36 (Nat.le_of_ble_eq_true rfl) (by kernel_rfl) ?_)
      intro W37 HS38
      refine wpList_nil ?_
      exact J47 f33 vt31.Hi vt31.Lo (fun i_ => [Value.bool true, Value.agg #[.int .i64 vw1.Hi, .int .u64 vw1.Lo], Value.agg #[.int .i64 vt31.Hi, .int .u64 vt31.Lo]].getD i_ undef) W37 _ L34 h HS38 (by kernel_rfl)
    · have c30 : ¬ (vw1.Hi < 0) := c30
      refine wpRwI 15 (x := (decide (vw1.Hi < 0))) (v := false) (by kernel_rfl) (decide_eq_false c30) ?_
      refine condF (by kernel_rfl) ?_
      refine wp_skip ?_
      exact J47 f vw1.Hi vw1.Lo (fun i_ => [Value.bool false, undef, undef].getD i_ undef) W23 _ (FM.le.refl _) h HS24 (by kernel_rfl)

set_option maxRecDepth 100000 in
set_option maxHeartbeats 4000000 in
theorem num_MulDiv.calls (k : Nat)  (a1 : Int) (b2 : Int) (c3 : Int) {t w : World} {f : FM} {H : List Seg} (HS : St t w f (H)) (r1 : Int) (r2 : Int) (h : num_MulDiv k a1 b2 c3 = some (r1, r2)) :
    Calls Try.prog 54 #[.int .i64 a1, .int .i64 b2, .int .i64 c3] w (fun e w' => ∃ (g : FM), e = .returned (Value.tuple #[.int .i64 r1, .int .i64 r2]) ∧ FM.le f g ∧ St t w' g (H)) := by
  unfold num_MulDiv at h
  refine enter Try.func54 rfl (tm := #[.int .i64 a1, .int .i64 b2, .int .i64 c3, undef, undef, undef, undef, undef, undef, undef, undef, undef, undef, undef, undef]) (by kernel_rfl) ?_
  intro B hret hnor hnp
  refine wp_seq_k (fun K4 hK5 => ?_)
  refine wp_region_lit ?_
  refine seqS2 (a' := ⟨#[.int .i64 a1, .int .i64 b2, .int .i64 c3, undef, undef, undef, .int .i64 0, .int .i64 0, undef, undef, undef, undef, undef, undef, undef], []⟩) (by kernel_rfl) ?_
  refine wpList_nil ?_
  refine hK5 _ _ ?_
  refine wp_seq_k (fun K6 hK7 => ?_)
  refine wp_region_lit ?_
  have hq_ := bind_some h; clear h; obtain ⟨vt8, hc9, h⟩ := hq_
  refine seqL2 (by kernel_rfl) ?_
  refine seqK rfl (does_call (f := 64) (args := #[.int .i64 a1, .int .i64 b2]) (by kernel_rfl) (num_Product.calls k a1 b2 HS vt8 hc9) ?_)
  rintro _ W12 ⟨f10, rfl, L11, HS13⟩
  refine ⟨_, rfl, ?_⟩
  have hq_ := bind_some h; clear h; obtain ⟨⟨vt14, vt15⟩, hc16, h⟩ := hq_
  refine seqL1 (by kernel_rfl) ?_
  refine seqK rfl (does_call (f := 65) (args := #[.agg #[.int .i64 vt8.Hi, .int .u64 vt8.Lo], .int .i64 c3]) (by kernel_rfl) (num_Wide_Div.calls k vt8 c3 HS13 vt14 vt15 hc16) ?_)
  rintro _ W19 ⟨f17, rfl, L18, HS20⟩
  refine ⟨_, rfl, ?_⟩
  refine seqS4 (a' := ⟨#[.int .i64 a1, .int .i64 b2, .int .i64 c3, undef, undef, undef, .int .i64 vt14, .int .i64 vt15, .int .i64 a1, .int .i64 b2, .agg #[.int .i64 vt8.Hi, .int .u64 vt8.Lo], .int .i64 c3, .tuple #[.int .i64 vt14, .int .i64 vt15], .int .i64 vt14, .int .i64 vt15], []⟩) (by kernel_rfl) ?_
  refine wpList_nil ?_
  refine hK7 _ _ ?_
  refine wp_ret ?_
  refine hret _ _ ?_
  refine ends_still (v := Value.tuple #[.int .i64 vt14, .int .i64 vt15]) (by kernel_rfl) (by kernel_rfl) ?_
  injection h with h
  injection h with h0_ h
  subst h0_ h
  exact ⟨f17, rfl, (L11.trans L18), HS20⟩

set_option maxRecDepth 100000 in
set_option maxHeartbeats 4000000 in
theorem sensor_Expect.calls (k : Nat) (A2 : Option Addr) (c3 : Nat) (A5 : Option Addr) (c6 : Nat) (A8 : Option Addr) (c9 : Nat) (A12 : Option Addr) (c13 : Nat) (s1 : S_Sensor) (light11 : List Int) (beats15 : Int) {t w : World} {f : FM} {H : List Seg} (HS : St t w f (H)) (HR4 : SlR (tInt .i64) f A2 c3 s1.Bias) (HR7 : SlR (tInt .i64) f A5 c6 s1.Dark) (HR10 : SlR (tInt .i64) f A8 c9 s1.Flat) (HR14 : SlR (tInt .i64) f A12 c13 light11) (r1 : List Int) (r2 : Int) (h : sensor_Expect k s1 light11 beats15 = some (r1, r2)) :
    Calls Try.prog 26 #[.agg #[.int .i64 s1.W, .int .i64 s1.H, .slice A2 s1.Bias.length c3, .slice A5 s1.Dark.length c6, .slice A8 s1.Flat.length c9, .int .i64 s1.Full, .int .i64 s1.Gain, .int .i64 s1.Noise], .slice A12 light11.length c13, .int .i64 beats15] w (fun e w' => ∃ (g : FM) (A238 : Option Addr) (c239 : Nat) (s240 : Seg), e = .returned (Value.tuple #[.slice A238 r1.length c239, .int .i64 r2]) ∧ FM.le f g ∧ St t w' g (s240 :: H) ∧ Own (tInt .i64) 25 g A238 c239 s240 r1) := by
  unfold sensor_Expect at h
  refine enter Try.func26 rfl (tm := #[.agg #[.int .i64 s1.W, .int .i64 s1.H, .slice A2 s1.Bias.length c3, .slice A5 s1.Dark.length c6, .slice A8 s1.Flat.length c9, .int .i64 s1.Full, .int .i64 s1.Gain, .int .i64 s1.Noise], .slice A12 light11.length c13, .int .i64 beats15, undef, undef, undef, undef, undef, undef, undef, undef, undef, undef, undef, undef, undef, undef, undef, undef, undef, undef, undef, undef, undef, undef, undef, undef, undef, undef, undef, undef, undef, undef, undef, undef, undef, undef, undef, undef, undef, undef, undef, undef, undef, undef, undef, undef, undef, undef, undef, undef, undef, undef, undef, undef, undef, undef, undef, undef, undef, undef, undef, undef, undef, undef]) (by kernel_rfl) ?_
  intro B hret hnor hnp
  refine wp_seq_k (fun K16 hK17 => ?_)
  refine wp_region_lit ?_
  refine seqK rfl (does_box (cs := #[.int .i64 s1.W, .int .i64 s1.H, .slice A2 s1.Bias.length c3, .slice A5 s1.Dark.length c6, .slice A8 s1.Flat.length c9, .int .i64 s1.Full, .int .i64 s1.Gain, .int .i64 s1.Noise]) rfl (by kernel_rfl : _ = Value.agg #[.int .i64 s1.W, .int .i64 s1.H, .slice A2 s1.Bias.length c3, .slice A5 s1.Dark.length c6, .slice A8 s1.Flat.length c9, .int .i64 s1.Full, .int .i64 s1.Gain, .int .i64 s1.Noise]) rfl HS ?_)
  intro b18 W19 HS20
  refine seqS2 (a' := ⟨#[.agg #[.int .i64 s1.W, .int .i64 s1.H, .slice A2 s1.Bias.length c3, .slice A5 s1.Dark.length c6, .slice A8 s1.Flat.length c9, .int .i64 s1.Full, .int .i64 s1.Gain, .int .i64 s1.Noise], .slice A12 light11.length c13, .int .i64 beats15, .pointer (some ⟨b18, 0, none⟩), undef, undef, .slice none 0 0, .int .i64 0, undef, undef, undef, undef, undef, undef, undef, undef, undef, undef, undef, undef, undef, undef, undef, undef, undef, undef, undef, undef, undef, undef, undef, undef, undef, undef, undef, undef, undef, undef, undef, undef, undef, undef, undef, undef, undef, undef, undef, undef, undef, undef, undef, undef, undef, undef, undef, undef, undef, undef, undef, undef, undef, undef, undef, undef, undef], []⟩) (by kernel_rfl) ?_
  refine wpList_nil ?_
  refine hK17 _ _ ?_
  refine wp_seq_k (fun K22 hK23 => ?_)
  refine wp_seq_k (fun K24 hK25 => ?_)
  refine wp_region_lit ?_
  refine seqK rfl (does_run (run_loadN (n := 8) rfl Try.underlying46 rfl (by kernel_rfl) (by kernel_rfl : _ = Value.pointer (some ⟨b18, 0, none⟩)) (cs := [.int .i64 s1.W, .int .i64 s1.H, .slice A2 s1.Bias.length c3, .slice A5 s1.Dark.length c6, .slice A8 s1.Flat.length c9, .int .i64 s1.Full, .int .i64 s1.Gain, .int .i64 s1.Noise]) rfl (HS20.cells 0 8 _ rfl)) ?_)
  have hq_ := bind_some h; clear h; obtain ⟨vt26, hc27, h⟩ := hq_
  refine seqL2 (by kernel_rfl) ?_
  refine seqK rfl (does_call (f := 44) (args := #[.agg #[.int .i64 s1.W, .int .i64 s1.H, .slice A2 s1.Bias.length c3, .slice A5 s1.Dark.length c6, .slice A8 s1.Flat.length c9, .int .i64 s1.Full, .int .i64 s1.Gain, .int .i64 s1.Noise], .int .i64 (light11.length : Int)]) (by kernel_rfl) (sensor_sized.calls k A2 c3 A5 c6 A8 c9 s1 (light11.length : Int) HS20 HR4 HR7 HR10 vt26 hc27) ?_)
  rintro _ W30 ⟨f28, rfl, L29, HS31⟩
  refine ⟨_, rfl, ?_⟩
  refine seqS1 (a' := ⟨#[.agg #[.int .i64 s1.W, .int .i64 s1.H, .slice A2 s1.Bias.length c3, .slice A5 s1.Dark.length c6, .slice A8 s1.Flat.length c9, .int .i64 s1.Full, .int .i64 s1.Gain, .int .i64 s1.Noise], .slice A12 light11.length c13, .int .i64 beats15, .pointer (some ⟨b18, 0, none⟩), undef, undef, .slice none 0 0, .int .i64 0, .int .i64 vt26, undef, undef, undef, undef, undef, .agg #[.int .i64 s1.W, .int .i64 s1.H, .slice A2 s1.Bias.length c3, .slice A5 s1.Dark.length c6, .slice A8 s1.Flat.length c9, .int .i64 s1.Full, .int .i64 s1.Gain, .int .i64 s1.Noise], .slice A12 light11.length c13, .int .i64 (light11.length : Int), .int .i64 vt26, undef, undef, undef, undef, undef, undef, undef, undef, undef, undef, undef, undef, undef, undef, undef, undef, undef, undef, undef, undef, undef, undef, undef, undef, undef, undef, undef, undef, undef, undef, undef, undef, undef, undef, undef, undef, undef, undef, undef, undef, undef, undef, undef, undef, undef, undef, undef], []⟩) (by kernel_rfl) ?_
  refine wpList_nil ?_
  refine hK25 _ _ ?_
  refine wp_seq_k (fun K32 hK33 => ?_)
  refine wp_region_lit ?_
  refine seqS2 (a' := ⟨#[.agg #[.int .i64 s1.W, .int .i64 s1.H, .slice A2 s1.Bias.length c3, .slice A5 s1.Dark.length c6, .slice A8 s1.Flat.length c9, .int .i64 s1.Full, .int .i64 s1.Gain, .int .i64 s1.Noise], .slice A12 light11.length c13, .int .i64 beats15, .pointer (some ⟨b18, 0, none⟩), undef, undef, .slice none 0 0, .int .i64 0, .int .i64 vt26, undef, undef, undef, undef, undef, .agg #[.int .i64 s1.W, .int .i64 s1.H, .slice A2 s1.Bias.length c3, .slice A5 s1.Dark.length c6, .slice A8 s1.Flat.length c9, .int .i64 s1.Full, .int .i64 s1.Gain, .int .i64 s1.Noise], .slice A12 light11.length c13, .int .i64 (light11.length : Int), .int .i64 vt26, .int .i64 vt26, .bool (vt26 != 0), undef, undef, undef, undef, undef, undef, undef, undef, undef, undef, undef, undef, undef, undef, undef, undef, undef, undef, undef, undef, undef, undef, undef, undef, undef, undef, undef, undef, undef, undef, undef, undef, undef, undef, undef, undef, undef, undef, undef, undef, undef, undef, undef, undef, undef], []⟩) (by kernel_rfl) ?_
  refine wpList_nil ?_
  refine hK33 _ _ ?_
  have hq_ := ite_some h; clear h; rcases hq_ with ⟨c35, h⟩ | ⟨c35, h⟩
  · have c35 : vt26 ≠ 0 := c35
    refine wpRwI 19 (x := (vt26 != 0)) (v := true) (by kernel_rfl) (bne_iff_ne.mpr c35) ?_
    refine condT (by kernel_rfl) ?_
    refine wp_seq_k (fun K36 hK37 => ?_)
    refine wp_region_lit ?_
    refine seqS3 (a' := ⟨#[.agg #[.int .i64 s1.W, .int .i64 s1.H, .slice A2 s1.Bias.length c3, .slice A5 s1.Dark.length c6, .slice A8 s1.Flat.length c9, .int .i64 s1.Full, .int .i64 s1.Gain, .int .i64 s1.Noise], .slice A12 light11.length c13, .int .i64 beats15, .pointer (some ⟨b18, 0, none⟩), undef, undef, .slice none 0 0, .int .i64 vt26, .int .i64 vt26, undef, undef, undef, undef, undef, .agg #[.int .i64 s1.W, .int .i64 s1.H, .slice A2 s1.Bias.length c3, .slice A5 s1.Dark.length c6, .slice A8 s1.Flat.length c9, .int .i64 s1.Full, .int .i64 s1.Gain, .int .i64 s1.Noise], .slice A12 light11.length c13, .int .i64 (light11.length : Int), .int .i64 vt26, .int .i64 vt26, .bool true, .int .i64 vt26, undef, undef, undef, undef, undef, undef, undef, undef, undef, undef, undef, undef, undef, undef, undef, undef, undef, undef, undef, undef, undef, undef, undef, undef, undef, undef, undef, undef, undef, undef, undef, undef, undef, undef, undef, undef, undef, undef, undef, undef, undef, undef, undef, undef], []⟩) (by kernel_rfl) ?_
    refine wpList_nil ?_
    refine hK37 _ _ ?_
    refine wp_ret ?_
    refine hret _ _ ?_
    have HS220 := HS31.cons_nil
    refine ends_still (v := Value.tuple #[.slice none 0 0, .int .i64 vt26]) (by kernel_rfl) (by kernel_rfl) ?_
    have HS222 := HS220.u1
    have HS223 := HS222.drop
    injection h with h
    injection h with h0_ h
    subst h0_ h
    exact ⟨f28, none, 0, [], rfl, L29, HS223, (Own.nil _)⟩
  · have c35 : ¬ (vt26 ≠ 0) := c35
    refine wpRwI 19 (x := (vt26 != 0)) (v := false) (by kernel_rfl) (bne_eq_false_iff_eq.mpr (Decidable.of_not_not c35)) ?_
    refine condF (by kernel_rfl) ?_
    refine wp_skip ?_
    refine hK23 _ _ ?_
    refine wp_seq_k (fun K38 hK39 => ?_)
    refine wp_seq_k (fun K40 hK41 => ?_)
    refine wp_region_lit ?_
    refine seqS3 (a' := ⟨#[.agg #[.int .i64 s1.W, .int .i64 s1.H, .slice A2 s1.Bias.length c3, .slice A5 s1.Dark.length c6, .slice A8 s1.Flat.length c9, .int .i64 s1.Full, .int .i64 s1.Gain, .int .i64 s1.Noise], .slice A12 light11.length c13, .int .i64 beats15, .pointer (some ⟨b18, 0, none⟩), undef, undef, .slice none 0 0, .int .i64 0, .int .i64 vt26, undef, undef, undef, undef, undef, .agg #[.int .i64 s1.W, .int .i64 s1.H, .slice A2 s1.Bias.length c3, .slice A5 s1.Dark.length c6, .slice A8 s1.Flat.length c9, .int .i64 s1.Full, .int .i64 s1.Gain, .int .i64 s1.Noise], .slice A12 light11.length c13, .int .i64 (light11.length : Int), .int .i64 vt26, .int .i64 vt26, .bool false, undef, .int .i64 beats15, .bool (decide (beats15 < 0)), .bool (decide (beats15 < 0)), undef, undef, undef, undef, undef, undef, undef, undef, undef, undef, undef, undef, undef, undef, undef, undef, undef, undef, undef, undef, undef, undef, undef, undef, undef, undef, undef, undef, undef, undef, undef, undef, undef, undef, undef, undef, undef, undef, undef, undef, undef], []⟩) (by kernel_rfl) ?_
    have hq_ := ite_some h; clear h; rcases hq_ with ⟨c42, h⟩ | ⟨c42, h⟩
    · have c42 : beats15 < 0 := c42
      refine seqRwI 22 (x := (decide (beats15 < 0))) (v := true) (by kernel_rfl) (decide_eq_true c42) ?_
      refine seqRwI 23 (x := (decide (beats15 < 0))) (v := true) (by kernel_rfl) (decide_eq_true c42) ?_
      refine seqS7 (a' := ⟨#[.agg #[.int .i64 s1.W, .int .i64 s1.H, .slice A2 s1.Bias.length c3, .slice A5 s1.Dark.length c6, .slice A8 s1.Flat.length c9, .int .i64 s1.Full, .int .i64 s1.Gain, .int .i64 s1.Noise], .slice A12 light11.length c13, .int .i64 beats15, .pointer (some ⟨b18, 0, none⟩), undef, undef, .slice none 0 0, .int .i64 0, .int .i64 vt26, undef, undef, undef, undef, undef, .agg #[.int .i64 s1.W, .int .i64 s1.H, .slice A2 s1.Bias.length c3, .slice A5 s1.Dark.length c6, .slice A8 s1.Flat.length c9, .int .i64 s1.Full, .int .i64 s1.Gain, .int .i64 s1.Noise], .slice A12 light11.length c13, .int .i64 (light11.length : Int), .int .i64 vt26, .int .i64 vt26, .bool false, undef, .int .i64 beats15, .bool true, .bool true, undef, undef, .bool true, .bool true, undef, undef, .bool true, undef, undef, undef, undef, undef, undef, undef, undef, undef, undef, undef, undef, undef, undef, undef, undef, undef, undef, undef, undef, undef, undef, undef, undef, undef, undef, undef, undef, undef, undef, undef, undef, undef, undef], []⟩) (by kernel_rfl) ?_
      refine wpList_nil ?_
      refine hK41 _ _ ?_
      refine condT (by kernel_rfl) ?_
      refine wp_seq_k (fun K43 hK44 => ?_)
      refine wp_region_lit ?_
      refine seqS2 (a' := ⟨#[.agg #[.int .i64 s1.W, .int .i64 s1.H, .slice A2 s1.Bias.length c3, .slice A5 s1.Dark.length c6, .slice A8 s1.Flat.length c9, .int .i64 s1.Full, .int .i64 s1.Gain, .int .i64 s1.Noise], .slice A12 light11.length c13, .int .i64 beats15, .pointer (some ⟨b18, 0, none⟩), undef, undef, .slice none 0 0, .int .i64 4, .int .i64 vt26, undef, undef, undef, undef, undef, .agg #[.int .i64 s1.W, .int .i64 s1.H, .slice A2 s1.Bias.length c3, .slice A5 s1.Dark.length c6, .slice A8 s1.Flat.length c9, .int .i64 s1.Full, .int .i64 s1.Gain, .int .i64 s1.Noise], .slice A12 light11.length c13, .int .i64 (light11.length : Int), .int .i64 vt26, .int .i64 vt26, .bool false, undef, .int .i64 beats15, .bool true, .bool true, undef, undef, .bool true, .bool true, undef, undef, .bool true, undef, undef, undef, undef, undef, undef, undef, undef, undef, undef, undef, undef, undef, undef, undef, undef, undef, undef, undef, undef, undef, undef, undef, undef, undef, undef, undef, undef, undef, undef, undef, undef, undef, undef], []⟩) (by kernel_rfl) ?_
      refine wpList_nil ?_
      refine hK44 _ _ ?_
      refine wp_ret ?_
      refine hret _ _ ?_
      have HS224 := HS31.cons_nil
      refine ends_still (v := Value.tuple #[.slice none 0 0, .int .i64 4]) (by kernel_rfl) (by kernel_rfl) ?_
      have HS226 := HS224.u1
      have HS227 := HS226.drop
      injection h with h
      injection h with h0_ h
      subst h0_ h
      exact ⟨f28, none, 0, [], rfl, L29, HS227, (Own.nil _)⟩
    · have c42 : ¬ (beats15 < 0) := c42
      refine seqRwI 22 (x := (decide (beats15 < 0))) (v := false) (by kernel_rfl) (decide_eq_false c42) ?_
      refine seqRwI 23 (x := (decide (beats15 < 0))) (v := false) (by kernel_rfl) (decide_eq_false c42) ?_
      refine seqS4 (a' := ⟨#[.agg #[.int .i64 s1.W, .int .i64 s1.H, .slice A2 s1.Bias.length c3, .slice A5 s1.Dark.length c6, .slice A8 s1.Flat.length c9, .int .i64 s1.Full, .int .i64 s1.Gain, .int .i64 s1.Noise], .slice A12 light11.length c13, .int .i64 beats15, .pointer (some ⟨b18, 0, none⟩), undef, undef, .slice none 0 0, .int .i64 0, .int .i64 vt26, undef, undef, undef, undef, undef, .agg #[.int .i64 s1.W, .int .i64 s1.H, .slice A2 s1.Bias.length c3, .slice A5 s1.Dark.length c6, .slice A8 s1.Flat.length c9, .int .i64 s1.Full, .int .i64 s1.Gain, .int .i64 s1.Noise], .slice A12 light11.length c13, .int .i64 (light11.length : Int), .int .i64 vt26, .int .i64 vt26, .bool false, undef, .int .i64 beats15, .bool false, .bool false, .int .i64 beats15, .bool (decide (beats15 > 16)), .bool (decide (beats15 > 16)), .bool (decide (beats15 > 16)), undef, undef, undef, undef, undef, undef, undef, undef, undef, undef, undef, undef, undef, undef, undef, undef, undef, undef, undef, undef, undef, undef, undef, undef, undef, undef, undef, undef, undef, undef, undef, undef, undef, undef, undef, undef, undef], []⟩) (by kernel_rfl) ?_
      have hq_ := ite_some h; clear h; rcases hq_ with ⟨c45, h⟩ | ⟨c45, h⟩
      · have c45 : beats15 > 16 := c45
        refine seqRwI 25 (x := (decide (beats15 > 16))) (v := true) (by kernel_rfl) (decide_eq_true c45) ?_
        refine seqRwI 26 (x := (decide (beats15 > 16))) (v := true) (by kernel_rfl) (decide_eq_true c45) ?_
        refine seqRwI 27 (x := (decide (beats15 > 16))) (v := true) (by kernel_rfl) (decide_eq_true c45) ?_
        refine seqS3 (a' := ⟨#[.agg #[.int .i64 s1.W, .int .i64 s1.H, .slice A2 s1.Bias.length c3, .slice A5 s1.Dark.length c6, .slice A8 s1.Flat.length c9, .int .i64 s1.Full, .int .i64 s1.Gain, .int .i64 s1.Noise], .slice A12 light11.length c13, .int .i64 beats15, .pointer (some ⟨b18, 0, none⟩), undef, undef, .slice none 0 0, .int .i64 0, .int .i64 vt26, undef, undef, undef, undef, undef, .agg #[.int .i64 s1.W, .int .i64 s1.H, .slice A2 s1.Bias.length c3, .slice A5 s1.Dark.length c6, .slice A8 s1.Flat.length c9, .int .i64 s1.Full, .int .i64 s1.Gain, .int .i64 s1.Noise], .slice A12 light11.length c13, .int .i64 (light11.length : Int), .int .i64 vt26, .int .i64 vt26, .bool false, undef, .int .i64 beats15, .bool false, .bool false, .int .i64 beats15, .bool true, .bool true, .bool true, undef, undef, .bool true, undef, undef, undef, undef, undef, undef, undef, undef, undef, undef, undef, undef, undef, undef, undef, undef, undef, undef, undef, undef, undef, undef, undef, undef, undef, undef, undef, undef, undef, undef, undef, undef, undef, undef], []⟩) (by kernel_rfl) ?_
        refine wpList_nil ?_
        refine hK41 _ _ ?_
        refine condT (by kernel_rfl) ?_
        refine wp_seq_k (fun K46 hK47 => ?_)
        refine wp_region_lit ?_
        refine seqS2 (a' := ⟨#[.agg #[.int .i64 s1.W, .int .i64 s1.H, .slice A2 s1.Bias.length c3, .slice A5 s1.Dark.length c6, .slice A8 s1.Flat.length c9, .int .i64 s1.Full, .int .i64 s1.Gain, .int .i64 s1.Noise], .slice A12 light11.length c13, .int .i64 beats15, .pointer (some ⟨b18, 0, none⟩), undef, undef, .slice none 0 0, .int .i64 4, .int .i64 vt26, undef, undef, undef, undef, undef, .agg #[.int .i64 s1.W, .int .i64 s1.H, .slice A2 s1.Bias.length c3, .slice A5 s1.Dark.length c6, .slice A8 s1.Flat.length c9, .int .i64 s1.Full, .int .i64 s1.Gain, .int .i64 s1.Noise], .slice A12 light11.length c13, .int .i64 (light11.length : Int), .int .i64 vt26, .int .i64 vt26, .bool false, undef, .int .i64 beats15, .bool false, .bool false, .int .i64 beats15, .bool true, .bool true, .bool true, undef, undef, .bool true, undef, undef, undef, undef, undef, undef, undef, undef, undef, undef, undef, undef, undef, undef, undef, undef, undef, undef, undef, undef, undef, undef, undef, undef, undef, undef, undef, undef, undef, undef, undef, undef, undef, undef], []⟩) (by kernel_rfl) ?_
        refine wpList_nil ?_
        refine hK47 _ _ ?_
        refine wp_ret ?_
        refine hret _ _ ?_
        have HS228 := HS31.cons_nil
        refine ends_still (v := Value.tuple #[.slice none 0 0, .int .i64 4]) (by kernel_rfl) (by kernel_rfl) ?_
        have HS230 := HS228.u1
        have HS231 := HS230.drop
        injection h with h
        injection h with h0_ h
        subst h0_ h
        exact ⟨f28, none, 0, [], rfl, L29, HS231, (Own.nil _)⟩
      · have c45 : ¬ (beats15 > 16) := c45
        refine seqRwI 25 (x := (decide (beats15 > 16))) (v := false) (by kernel_rfl) (decide_eq_false c45) ?_
        refine seqRwI 26 (x := (decide (beats15 > 16))) (v := false) (by kernel_rfl) (decide_eq_false c45) ?_
        refine seqRwI 27 (x := (decide (beats15 > 16))) (v := false) (by kernel_rfl) (decide_eq_false c45) ?_
        have hq_ := bind_some h; clear h; obtain ⟨vt48, hc49, h⟩ := hq_
        refine seqL1 (by kernel_rfl) ?_
        refine seqG (by kernel_rfl) (does_call (f := 53) (args := #[.slice A12 light11.length c13, .int .i64 72057594037927936]) (by kernel_rfl) (sensor_outside_Light.calls k A12 c13 light11 72057594037927936 HS31 (HR14.mono L29) vt48 hc49) ?_)
        rintro _ W52 ⟨f50, rfl, L51, HS53⟩
        refine ⟨_, rfl, ?_⟩
        refine seqS1 (a' := ⟨#[.agg #[.int .i64 s1.W, .int .i64 s1.H, .slice A2 s1.Bias.length c3, .slice A5 s1.Dark.length c6, .slice A8 s1.Flat.length c9, .int .i64 s1.Full, .int .i64 s1.Gain, .int .i64 s1.Noise], .slice A12 light11.length c13, .int .i64 beats15, .pointer (some ⟨b18, 0, none⟩), undef, undef, .slice none 0 0, .int .i64 0, .int .i64 vt26, undef, undef, undef, undef, undef, .agg #[.int .i64 s1.W, .int .i64 s1.H, .slice A2 s1.Bias.length c3, .slice A5 s1.Dark.length c6, .slice A8 s1.Flat.length c9, .int .i64 s1.Full, .int .i64 s1.Gain, .int .i64 s1.Noise], .slice A12 light11.length c13, .int .i64 (light11.length : Int), .int .i64 vt26, .int .i64 vt26, .bool false, undef, .int .i64 beats15, .bool false, .bool false, .int .i64 beats15, .bool false, .bool false, .bool false, .slice A12 light11.length c13, .bool vt48, .bool vt48, undef, undef, undef, undef, undef, undef, undef, undef, undef, undef, undef, undef, undef, undef, undef, undef, undef, undef, undef, undef, undef, undef, undef, undef, undef, undef, undef, undef, undef, undef, undef, undef, undef, undef], []⟩) (by kernel_rfl) ?_
        refine wpList_nil ?_
        refine hK41 _ _ ?_
        have hq_ := ite_some h; clear h; rcases hq_ with ⟨c55, h⟩ | ⟨c55, h⟩
        · have c55 : vt48 = true := c55
          refine wpRwI 29 (x := vt48) (v := true) (by kernel_rfl) c55 ?_
          refine wpRwI 30 (x := vt48) (v := true) (by kernel_rfl) c55 ?_
          refine condT (by kernel_rfl) ?_
          refine wp_seq_k (fun K56 hK57 => ?_)
          refine wp_region_lit ?_
          refine seqS2 (a' := ⟨#[.agg #[.int .i64 s1.W, .int .i64 s1.H, .slice A2 s1.Bias.length c3, .slice A5 s1.Dark.length c6, .slice A8 s1.Flat.length c9, .int .i64 s1.Full, .int .i64 s1.Gain, .int .i64 s1.Noise], .slice A12 light11.length c13, .int .i64 beats15, .pointer (some ⟨b18, 0, none⟩), undef, undef, .slice none 0 0, .int .i64 4, .int .i64 vt26, undef, undef, undef, undef, undef, .agg #[.int .i64 s1.W, .int .i64 s1.H, .slice A2 s1.Bias.length c3, .slice A5 s1.Dark.length c6, .slice A8 s1.Flat.length c9, .int .i64 s1.Full, .int .i64 s1.Gain, .int .i64 s1.Noise], .slice A12 light11.length c13, .int .i64 (light11.length : Int), .int .i64 vt26, .int .i64 vt26, .bool false, undef, .int .i64 beats15, .bool false, .bool false, .int .i64 beats15, .bool false, .bool false, .bool false, .slice A12 light11.length c13, .bool true, .bool true, undef, undef, undef, undef, undef, undef, undef, undef, undef, undef, undef, undef, undef, undef, undef, undef, undef, undef, undef, undef, undef, undef, undef, undef, undef, undef, undef, undef, undef, undef, undef, undef, undef, undef], []⟩) (by kernel_rfl) ?_
          refine wpList_nil ?_
          refine hK57 _ _ ?_
          refine wp_ret ?_
          refine hret _ _ ?_
          have HS232 := HS53.cons_nil
          refine ends_still (v := Value.tuple #[.slice none 0 0, .int .i64 4]) (by kernel_rfl) (by kernel_rfl) ?_
          have HS234 := HS232.u1
          have HS235 := HS234.drop
          injection h with h
          injection h with h0_ h
          subst h0_ h
          exact ⟨f50, none, 0, [], rfl, (L29.trans L51), HS235, (Own.nil _)⟩
        · have c55 : ¬ (vt48 = true) := c55
          refine wpRwI 29 (x := vt48) (v := false) (by kernel_rfl) (Bool.eq_false_iff.mpr c55) ?_
          refine wpRwI 30 (x := vt48) (v := false) (by kernel_rfl) (Bool.eq_false_iff.mpr c55) ?_
          refine condF (by kernel_rfl) ?_
          refine wp_skip ?_
          refine hK39 _ _ ?_
          refine wp_seq_k (fun K58 hK59 => ?_)
          refine wp_region_lit ?_
          have hq_ := guard_some h; clear h; obtain ⟨c60, h⟩ := hq_
          have c60 : 0 ≤ (light11.length : Int) := c60
          have hq_ := guard_some h; clear h; obtain ⟨c61, h⟩ := hq_
          have c61 : (light11.length : Int) * 8 ≤ 140737488355328 := c61
          refine seqL2 (by kernel_rfl) ?_
          refine seqK rfl (does_make (e := (tInt .i64)) (E := 25) (u := 0) (n := (light11.length : Int)) rfl (by kernel_rfl : _ = Value.int .i64 (light11.length : Int)) (by kernel_rfl : _ = Value.int .i64 (light11.length : Int)) Try.underlying44 inf25 c60 c61 (by omega) rfl HS53 ?_)
          intro b62 W63 s64 HS65 HO66
          refine seqS1 (a' := ⟨#[.agg #[.int .i64 s1.W, .int .i64 s1.H, .slice A2 s1.Bias.length c3, .slice A5 s1.Dark.length c6, .slice A8 s1.Flat.length c9, .int .i64 s1.Full, .int .i64 s1.Gain, .int .i64 s1.Noise], .slice A12 light11.length c13, .int .i64 beats15, .pointer (some ⟨b18, 0, none⟩), undef, undef, .slice none 0 0, .int .i64 0, .int .i64 vt26, .slice (some ⟨b62, 0, none⟩) (List.replicate ((light11.length : Int)).toNat (0 : Int)).length ((light11.length : Int)).toNat, undef, undef, undef, undef, .agg #[.int .i64 s1.W, .int .i64 s1.H, .slice A2 s1.Bias.length c3, .slice A5 s1.Dark.length c6, .slice A8 s1.Flat.length c9, .int .i64 s1.Full, .int .i64 s1.Gain, .int .i64 s1.Noise], .slice A12 light11.length c13, .int .i64 (light11.length : Int), .int .i64 vt26, .int .i64 vt26, .bool false, undef, .int .i64 beats15, .bool false, .bool false, .int .i64 beats15, .bool false, .bool false, .bool false, .slice A12 light11.length c13, .bool false, .bool false, .slice A12 light11.length c13, .int .i64 (light11.length : Int), .slice (some ⟨b62, 0, none⟩) (List.replicate ((light11.length : Int)).toNat (0 : Int)).length ((light11.length : Int)).toNat, undef, undef, undef, undef, undef, undef, undef, undef, undef, undef, undef, undef, undef, undef, undef, undef, undef, undef, undef, undef, undef, undef, undef, undef, undef, undef, undef, undef, undef, undef, undef], []⟩) (by kernel_rfl) ?_
          refine wpList_nil ?_
          refine hK59 _ _ ?_
          refine wp_seq_k (fun K68 hK69 => ?_)
          refine wp_seq_k (fun K70 hK71 => ?_)
          refine wp_region_lit ?_
          refine seqS3 (a' := ⟨#[.agg #[.int .i64 s1.W, .int .i64 s1.H, .slice A2 s1.Bias.length c3, .slice A5 s1.Dark.length c6, .slice A8 s1.Flat.length c9, .int .i64 s1.Full, .int .i64 s1.Gain, .int .i64 s1.Noise], .slice A12 light11.length c13, .int .i64 beats15, .pointer (some ⟨b18, 0, none⟩), undef, undef, .slice none 0 0, .int .i64 0, .int .i64 vt26, .slice (some ⟨b62, 0, none⟩) (List.replicate ((light11.length : Int)).toNat (0 : Int)).length ((light11.length : Int)).toNat, undef, undef, undef, undef, .agg #[.int .i64 s1.W, .int .i64 s1.H, .slice A2 s1.Bias.length c3, .slice A5 s1.Dark.length c6, .slice A8 s1.Flat.length c9, .int .i64 s1.Full, .int .i64 s1.Gain, .int .i64 s1.Noise], .slice A12 light11.length c13, .int .i64 (light11.length : Int), .int .i64 vt26, .int .i64 vt26, .bool false, undef, .int .i64 beats15, .bool false, .bool false, .int .i64 beats15, .bool false, .bool false, .bool false, .slice A12 light11.length c13, .bool false, .bool false, .slice A12 light11.length c13, .int .i64 (light11.length : Int), .slice (some ⟨b62, 0, none⟩) (List.replicate ((light11.length : Int)).toNat (0 : Int)).length ((light11.length : Int)).toNat, .slice A12 light11.length c13, .int .i64 (light11.length : Int), .int .i64 0, undef, undef, undef, undef, undef, undef, undef, undef, undef, undef, undef, undef, undef, undef, undef, undef, undef, undef, undef, undef, undef, undef, undef, undef, undef, undef, undef, undef], []⟩) (by kernel_rfl) ?_
          refine wpList_nil ?_
          refine hK71 _ _ ?_
          refine blockK (fun B72 hx73 hn74 hr75 ho76 hp77 => ?_)
          have hq_ := bind_some h; clear h; obtain ⟨o140, hv215, h⟩ := hq_
          have J216 : ∀ (f206 : FM) (s212 : Seg) (out211 : List Int) (j210 : Nat → Value) (W208 : World) (a_ : Act), FM.le f50 f206 → some (out211) = some o140 → St t W208 f206 (s212 :: [(b18, .cells #[.int .i64 s1.W, .int .i64 s1.H, .slice A2 s1.Bias.length c3, .slice A5 s1.Dark.length c6, .slice A8 s1.Flat.length c9, .int .i64 s1.Full, .int .i64 s1.Gain, .int .i64 s1.Noise] 46 (0, 0))] :: H) → Own (tInt .i64) 25 f206 (some ⟨b62, 0, none⟩) ((light11.length : Int)).toNat s212 out211 → out211.length = (List.replicate ((light11.length : Int)).toNat (0 : Int)).length → a_ = ⟨#[.agg #[.int .i64 s1.W, .int .i64 s1.H, .slice A2 s1.Bias.length c3, .slice A5 s1.Dark.length c6, .slice A8 s1.Flat.length c9, .int .i64 s1.Full, .int .i64 s1.Gain, .int .i64 s1.Noise], .slice A12 light11.length c13, .int .i64 beats15, .pointer (some ⟨b18, 0, none⟩), undef, undef, .slice none 0 0, .int .i64 0, .int .i64 vt26, .slice (some ⟨b62, 0, none⟩) out211.length ((light11.length : Int)).toNat, (j210 0), (j210 1), (j210 2), (j210 3), .agg #[.int .i64 s1.W, .int .i64 s1.H, .slice A2 s1.Bias.length c3, .slice A5 s1.Dark.length c6, .slice A8 s1.Flat.length c9, .int .i64 s1.Full, .int .i64 s1.Gain, .int .i64 s1.Noise], .slice A12 light11.length c13, .int .i64 (light11.length : Int), .int .i64 vt26, .int .i64 vt26, .bool false, undef, .int .i64 beats15, .bool false, .bool false, .int .i64 beats15, .bool false, .bool false, .bool false, .slice A12 light11.length c13, .bool false, .bool false, .slice A12 light11.length c13, .int .i64 (light11.length : Int), .slice (some ⟨b62, 0, none⟩) (List.replicate ((light11.length : Int)).toNat (0 : Int)).length ((light11.length : Int)).toNat, .slice A12 light11.length c13, .int .i64 (light11.length : Int), (j210 4), (j210 5), (j210 6), (j210 7), (j210 8), (j210 9), (j210 10), (j210 11), (j210 12), (j210 13), (j210 14), (j210 15), (j210 16), (j210 17), (j210 18), (j210 19), (j210 20), (j210 21), (j210 22), (j210 23), (j210 24), (j210 25), (j210 26), (j210 27), (j210 28), (j210 29), (j210 30), (j210 31), undef], []⟩ → K68 a_ W208 := by
            intro f206 s212 out211 j210 W208 a_ L207 hj217 HS209 HO213 HL214 hfr_; subst hfr_
            injection hj217 with hj217; subst hj217; try dsimp only at h
            refine hK69 _ _ ?_
            refine wp_seq_k (fun K218 hK219 => ?_)
            refine wp_region_lit ?_
            refine seqS3 (a' := ⟨#[.agg #[.int .i64 s1.W, .int .i64 s1.H, .slice A2 s1.Bias.length c3, .slice A5 s1.Dark.length c6, .slice A8 s1.Flat.length c9, .int .i64 s1.Full, .int .i64 s1.Gain, .int .i64 s1.Noise], .slice A12 light11.length c13, .int .i64 beats15, .pointer (some ⟨b18, 0, none⟩), undef, undef, .slice (some ⟨b62, 0, none⟩) out211.length ((light11.length : Int)).toNat, .int .i64 0, .int .i64 vt26, .slice (some ⟨b62, 0, none⟩) out211.length ((light11.length : Int)).toNat, (j210 0), (j210 1), (j210 2), (j210 3), .agg #[.int .i64 s1.W, .int .i64 s1.H, .slice A2 s1.Bias.length c3, .slice A5 s1.Dark.length c6, .slice A8 s1.Flat.length c9, .int .i64 s1.Full, .int .i64 s1.Gain, .int .i64 s1.Noise], .slice A12 light11.length c13, .int .i64 (light11.length : Int), .int .i64 vt26, .int .i64 vt26, .bool false, undef, .int .i64 beats15, .bool false, .bool false, .int .i64 beats15, .bool false, .bool false, .bool false, .slice A12 light11.length c13, .bool false, .bool false, .slice A12 light11.length c13, .int .i64 (light11.length : Int), .slice (some ⟨b62, 0, none⟩) (List.replicate ((light11.length : Int)).toNat (0 : Int)).length ((light11.length : Int)).toNat, .slice A12 light11.length c13, .int .i64 (light11.length : Int), (j210 4), (j210 5), (j210 6), (j210 7), (j210 8), (j210 9), (j210 10), (j210 11), (j210 12), (j210 13), (j210 14), (j210 15), (j210 16), (j210 17), (j210 18), (j210 19), (j210 20), (j210 21), (j210 22), (j210 23), (j210 24), (j210 25), (j210 26), (j210 27), (j210 28), (j210 29), (j210 30), (j210 31), .slice (some ⟨b62, 0, none⟩) out211.length ((light11.length : Int)).toNat], []⟩) (by kernel_rfl) ?_
            refine wpList_nil ?_
            refine hK219 _ _ ?_
            refine wp_ret ?_
            refine hret _ _ ?_
            refine ends_still (v := Value.tuple #[.slice (some ⟨b62, 0, none⟩) out211.length ((light11.length : Int)).toNat, .int .i64 0]) (by kernel_rfl) (by kernel_rfl) ?_
            have HS236 := HS209.u1
            have HS237 := HS236.drop
            injection h with h
            injection h with h0_ h
            subst h0_ h
            exact ⟨f206, (some ⟨b62, 0, none⟩), (((light11.length : Int)).toNat), s212, rfl, (L29.trans (L51.trans L207)), HS237, HO213⟩
          clear h; have h := hv215; clear hv215
          refine loopK (fun n_ a_ w_ => ∃ (f144 : FM) (s150 : Seg) (out149 : List Int) (x153 : Int) (j148 : Nat → Value), FM.le f50 f144 ∧ St t w_ f144 (s150 :: [(b18, .cells #[.int .i64 s1.W, .int .i64 s1.H, .slice A2 s1.Bias.length c3, .slice A5 s1.Dark.length c6, .slice A8 s1.Flat.length c9, .int .i64 s1.Full, .int .i64 s1.Gain, .int .i64 s1.Noise] 46 (0, 0))] :: H) ∧ Own (tInt .i64) 25 f144 (some ⟨b62, 0, none⟩) ((light11.length : Int)).toNat s150 out149 ∧ out149.length = (List.replicate ((light11.length : Int)).toNat (0 : Int)).length ∧ sensor_Expect.l0 k light11 s1 beats15 n_ out149 x153 = some o140 ∧ a_ = ⟨#[.agg #[.int .i64 s1.W, .int .i64 s1.H, .slice A2 s1.Bias.length c3, .slice A5 s1.Dark.length c6, .slice A8 s1.Flat.length c9, .int .i64 s1.Full, .int .i64 s1.Gain, .int .i64 s1.Noise], .slice A12 light11.length c13, .int .i64 beats15, .pointer (some ⟨b18, 0, none⟩), undef, undef, .slice none 0 0, .int .i64 0, .int .i64 vt26, .slice (some ⟨b62, 0, none⟩) out149.length ((light11.length : Int)).toNat, (j148 0), (j148 1), (j148 2), (j148 3), .agg #[.int .i64 s1.W, .int .i64 s1.H, .slice A2 s1.Bias.length c3, .slice A5 s1.Dark.length c6, .slice A8 s1.Flat.length c9, .int .i64 s1.Full, .int .i64 s1.Gain, .int .i64 s1.Noise], .slice A12 light11.length c13, .int .i64 (light11.length : Int), .int .i64 vt26, .int .i64 vt26, .bool false, undef, .int .i64 beats15, .bool false, .bool false, .int .i64 beats15, .bool false, .bool false, .bool false, .slice A12 light11.length c13, .bool false, .bool false, .slice A12 light11.length c13, .int .i64 (light11.length : Int), .slice (some ⟨b62, 0, none⟩) (List.replicate ((light11.length : Int)).toNat (0 : Int)).length ((light11.length : Int)).toNat, .slice A12 light11.length c13, .int .i64 (light11.length : Int), .int .i64 x153, (j148 4), (j148 5), (j148 6), (j148 7), (j148 8), (j148 9), (j148 10), (j148 11), (j148 12), (j148 13), (j148 14), (j148 15), (j148 16), (j148 17), (j148 18), (j148 19), (j148 20), (j148 21), (j148 22), (j148 23), (j148 24), (j148 25), (j148 26), (j148 27), (j148 28), (j148 29), (j148 30), undef], []⟩) k ⟨f50, s64, (List.replicate ((light11.length : Int)).toNat (0 : Int)), 0, (fun i_ => [undef, undef, undef, undef, undef, undef, undef, undef, undef, undef, undef, undef, undef, undef, undef, undef, undef, undef, undef, undef, undef, undef, undef, undef, undef, undef, undef, undef, undef, undef, undef].getD i_ undef), (FM.le.refl _), HS65, HO66, rfl, h, (by kernel_rfl)⟩ ?_
          clear h
          rintro n143 _ W146 ⟨f144, s150, out149, x153, j148, L145, HS147, HO151, HL152, h, rfl⟩ K141 hK142
          obtain _ | n143 := n143
          · exact nomatch h
          simp only [sensor_Expect.l0] at h
          refine wp_seq_k (fun K154 hK155 => ?_)
          refine wp_region_lit ?_
          refine seqS1 (a' := ⟨#[.agg #[.int .i64 s1.W, .int .i64 s1.H, .slice A2 s1.Bias.length c3, .slice A5 s1.Dark.length c6, .slice A8 s1.Flat.length c9, .int .i64 s1.Full, .int .i64 s1.Gain, .int .i64 s1.Noise], .slice A12 light11.length c13, .int .i64 beats15, .pointer (some ⟨b18, 0, none⟩), undef, undef, .slice none 0 0, .int .i64 0, .int .i64 vt26, .slice (some ⟨b62, 0, none⟩) out149.length ((light11.length : Int)).toNat, (j148 0), (j148 1), (j148 2), (j148 3), .agg #[.int .i64 s1.W, .int .i64 s1.H, .slice A2 s1.Bias.length c3, .slice A5 s1.Dark.length c6, .slice A8 s1.Flat.length c9, .int .i64 s1.Full, .int .i64 s1.Gain, .int .i64 s1.Noise], .slice A12 light11.length c13, .int .i64 (light11.length : Int), .int .i64 vt26, .int .i64 vt26, .bool false, undef, .int .i64 beats15, .bool false, .bool false, .int .i64 beats15, .bool false, .bool false, .bool false, .slice A12 light11.length c13, .bool false, .bool false, .slice A12 light11.length c13, .int .i64 (light11.length : Int), .slice (some ⟨b62, 0, none⟩) (List.replicate ((light11.length : Int)).toNat (0 : Int)).length ((light11.length : Int)).toNat, .slice A12 light11.length c13, .int .i64 (light11.length : Int), .int .i64 x153, .bool (decide (x153 < (light11.length : Int))), (j148 5), (j148 6), (j148 7), (j148 8), (j148 9), (j148 10), (j148 11), (j148 12), (j148 13), (j148 14), (j148 15), (j148 16), (j148 17), (j148 18), (j148 19), (j148 20), (j148 21), (j148 22), (j148 23), (j148 24), (j148 25), (j148 26), (j148 27), (j148 28), (j148 29), (j148 30), undef], []⟩) (by kernel_rfl) ?_
          refine wpList_nil ?_
          refine hK155 _ _ ?_
          refine wp_seq_k (fun K156 hK157 => ?_)
          have hq_ := ite_some h; clear h; rcases hq_ with ⟨c159, h⟩ | ⟨c159, h⟩
          · have c159 : x153 < (light11.length : Int) := c159
            refine wpRwI 37 (x := (decide (x153 < (light11.length : Int)))) (v := true) (by kernel_rfl) (decide_eq_true c159) ?_
            refine condT (by kernel_rfl) ?_
            refine wp_skip ?_
            refine hK157 _ _ ?_
            refine wp_seq_k (fun K160 hK161 => ?_)
            refine blockK (fun B162 hx163 hn164 hr165 ho166 hp167 => ?_)
            refine wp_seq_k (fun K169 hK170 => ?_)
            refine wp_region_lit ?_
            have hq_ := guard_some h; clear h; obtain ⟨c171, h⟩ := hq_
            have c171 : 0 ≤ x153 := c171
            obtain ⟨b175, of176, cs172, rfl, hr173, hc174⟩ := (HR14.mono (L29.trans (L51.trans L145))).at (i := x153) c171 c159
            obtain rfl := hr173
            refine seqL1 (by kernel_rfl) ?_
            refine seqK rfl (does_run (run_index (sz := 1) rfl Try.underlying44 (by kernel_rfl) (by kernel_rfl : _ = Value.slice (some ⟨b175, of176, none⟩) light11.length c13) (by kernel_rfl : _ = Value.int .i64 x153) c171 c159 W146) ?_)
            refine seqK rfl (does_run (run_load rfl Try.underlying25 rfl (by kernel_rfl : _ = Value.pointer (some ⟨b175, of176 + (x153 : Int).toNat * 1, none⟩)) ((hc174 (FM.le.refl _) HS147) 0 (by decide))) ?_)
            refine seqS2 (a' := ⟨#[.agg #[.int .i64 s1.W, .int .i64 s1.H, .slice A2 s1.Bias.length c3, .slice A5 s1.Dark.length c6, .slice A8 s1.Flat.length c9, .int .i64 s1.Full, .int .i64 s1.Gain, .int .i64 s1.Noise], .slice (some ⟨b175, of176, none⟩) light11.length c13, .int .i64 beats15, .pointer (some ⟨b18, 0, none⟩), undef, undef, .slice none 0 0, .int .i64 0, .int .i64 vt26, .slice (some ⟨b62, 0, none⟩) out149.length ((light11.length : Int)).toNat, .int .i64 x153, .int .i64 (rd light11 x153), (j148 2), (j148 3), .agg #[.int .i64 s1.W, .int .i64 s1.H, .slice A2 s1.Bias.length c3, .slice A5 s1.Dark.length c6, .slice A8 s1.Flat.length c9, .int .i64 s1.Full, .int .i64 s1.Gain, .int .i64 s1.Noise], .slice (some ⟨b175, of176, none⟩) light11.length c13, .int .i64 (light11.length : Int), .int .i64 vt26, .int .i64 vt26, .bool false, undef, .int .i64 beats15, .bool false, .bool false, .int .i64 beats15, .bool false, .bool false, .bool false, .slice (some ⟨b175, of176, none⟩) light11.length c13, .bool false, .bool false, .slice (some ⟨b175, of176, none⟩) light11.length c13, .int .i64 (light11.length : Int), .slice (some ⟨b62, 0, none⟩) (List.replicate ((light11.length : Int)).toNat (0 : Int)).length ((light11.length : Int)).toNat, .slice (some ⟨b175, of176, none⟩) light11.length c13, .int .i64 (light11.length : Int), .int .i64 x153, .bool true, .int .i64 x153, .pointer (some ⟨b175, of176 + (x153 : Int).toNat * 1, none⟩), .int .i64 (rd light11 x153), (j148 8), (j148 9), (j148 10), (j148 11), (j148 12), (j148 13), (j148 14), (j148 15), (j148 16), (j148 17), (j148 18), (j148 19), (j148 20), (j148 21), (j148 22), (j148 23), (j148 24), (j148 25), (j148 26), (j148 27), (j148 28), (j148 29), (j148 30), undef], []⟩) (by kernel_rfl) ?_
            refine wpList_nil ?_
            refine hK170 _ _ ?_
            refine wp_seq_k (fun K177 hK178 => ?_)
            refine wp_region_lit ?_
            refine seqL2 (by kernel_rfl) ?_
            refine seqK rfl (does_run (run_load rfl Try.underlying40 rfl (by kernel_rfl : _ = Value.pointer (some ⟨b18, 4, none⟩)) (HS147.u1.cell 4)) ?_)
            have hq_ := guard_some h; clear h; obtain ⟨c179, h⟩ := hq_
            have c179 : x153 < (s1.Flat.length : Int) := c179
            obtain ⟨b183, of184, cs180, rfl, hr181, hc182⟩ := (HR10.mono (L29.trans (L51.trans L145))).at (i := x153) c171 c179
            obtain rfl := hr181
            refine seqL1 (by kernel_rfl) ?_
            refine seqK rfl (does_run (run_index (sz := 1) rfl Try.underlying40 (by kernel_rfl) (by kernel_rfl : _ = Value.slice (some ⟨b183, of184, none⟩) s1.Flat.length c9) (by kernel_rfl : _ = Value.int .i64 x153) c171 c179 W146) ?_)
            refine seqK rfl (does_run (run_load rfl Try.underlying3 rfl (by kernel_rfl : _ = Value.pointer (some ⟨b183, of184 + (x153 : Int).toNat * 1, none⟩)) ((hc182 (FM.le.refl _) HS147) 0 (by decide))) ?_)
            have hq_ := bind_some h; clear h; obtain ⟨⟨vt185, vt186⟩, hc187, h⟩ := hq_
            refine seqK rfl (does_call (f := 54) (args := #[.int .i64 (rd light11 x153), .int .i64 (rd s1.Flat x153), .int .i64 4096]) (by kernel_rfl) (num_MulDiv.calls k (rd light11 x153) (rd s1.Flat x153) 4096 HS147 vt185 vt186 hc187) ?_)
            rintro _ W190 ⟨f188, rfl, L189, HS191⟩
            refine ⟨_, rfl, ?_⟩
            refine seqS5 (a' := ⟨#[.agg #[.int .i64 s1.W, .int .i64 s1.H, .slice A2 s1.Bias.length c3, .slice A5 s1.Dark.length c6, .slice (some ⟨b183, of184, none⟩) s1.Flat.length c9, .int .i64 s1.Full, .int .i64 s1.Gain, .int .i64 s1.Noise], .slice (some ⟨b175, of176, none⟩) light11.length c13, .int .i64 beats15, .pointer (some ⟨b18, 0, none⟩), undef, undef, .slice none 0 0, .int .i64 0, .int .i64 vt26, .slice (some ⟨b62, 0, none⟩) out149.length ((light11.length : Int)).toNat, .int .i64 x153, .int .i64 (rd light11 x153), .int .i64 vt185, .int .i64 vt186, .agg #[.int .i64 s1.W, .int .i64 s1.H, .slice A2 s1.Bias.length c3, .slice A5 s1.Dark.length c6, .slice (some ⟨b183, of184, none⟩) s1.Flat.length c9, .int .i64 s1.Full, .int .i64 s1.Gain, .int .i64 s1.Noise], .slice (some ⟨b175, of176, none⟩) light11.length c13, .int .i64 (light11.length : Int), .int .i64 vt26, .int .i64 vt26, .bool false, undef, .int .i64 beats15, .bool false, .bool false, .int .i64 beats15, .bool false, .bool false, .bool false, .slice (some ⟨b175, of176, none⟩) light11.length c13, .bool false, .bool false, .slice (some ⟨b175, of176, none⟩) light11.length c13, .int .i64 (light11.length : Int), .slice (some ⟨b62, 0, none⟩) (List.replicate ((light11.length : Int)).toNat (0 : Int)).length ((light11.length : Int)).toNat, .slice (some ⟨b175, of176, none⟩) light11.length c13, .int .i64 (light11.length : Int), .int .i64 x153, .bool true, .int .i64 x153, .pointer (some ⟨b175, of176 + (x153 : Int).toNat * 1, none⟩), .int .i64 (rd light11 x153), .tuple #[.int .i64 vt185, .int .i64 vt186], .int .i64 (rd light11 x153), .pointer (some ⟨b18, 4, none⟩), .slice (some ⟨b183, of184, none⟩) s1.Flat.length c9, .int .i64 x153, .pointer (some ⟨b183, of184 + (x153 : Int).toNat * 1, none⟩), .int .i64 (rd s1.Flat x153), .tuple #[.int .i64 vt185, .int .i64 vt186], .int .i64 vt185, .int .i64 vt186, (j148 18), (j148 19), (j148 20), (j148 21), (j148 22), (j148 23), (j148 24), (j148 25), (j148 26), (j148 27), (j148 28), (j148 29), (j148 30), undef], []⟩) (by kernel_rfl) ?_
            refine wpList_nil ?_
            refine hK178 _ _ ?_
            refine wp_region_lit ?_
            refine seqL4 (by kernel_rfl) ?_
            refine seqK rfl (does_run (run_load rfl Try.underlying44 rfl (by kernel_rfl : _ = Value.pointer (some ⟨b18, 3, none⟩)) (HS191.u1.cell 3)) ?_)
            have hq_ := guard_some h; clear h; obtain ⟨c192, h⟩ := hq_
            have c192 : x153 < (s1.Dark.length : Int) := c192
            obtain ⟨b196, of197, cs193, rfl, hr194, hc195⟩ := (HR7.mono (L29.trans (L51.trans (L145.trans L189)))).at (i := x153) c171 c192
            obtain rfl := hr194
            refine seqL1 (by kernel_rfl) ?_
            refine seqK rfl (does_run (run_index (sz := 1) rfl Try.underlying44 (by kernel_rfl) (by kernel_rfl : _ = Value.slice (some ⟨b196, of197, none⟩) s1.Dark.length c6) (by kernel_rfl : _ = Value.int .i64 x153) c171 c192 W190) ?_)
            refine seqK rfl (does_run (run_load rfl Try.underlying25 rfl (by kernel_rfl : _ = Value.pointer (some ⟨b196, of197 + (x153 : Int).toNat * 1, none⟩)) ((hc195 (FM.le.refl _) HS191) 0 (by decide))) ?_)
            have hq_ := guard_some h; clear h; obtain ⟨c198, h⟩ := hq_
            have c198 : x153 < (out149.length : Int) := c198
            obtain ⟨cs199, hr200, hc201⟩ := (HO151.mono L189).at' (i := x153) c171 c198
            obtain rfl := hr200
            refine seqL3 (by kernel_rfl) ?_
            refine seqK rfl (does_run (run_index (sz := 1) rfl Try.underlying44 (by kernel_rfl) (by kernel_rfl : _ = Value.slice (some ⟨b62, 0, none⟩) out149.length ((light11.length : Int)).toNat) (by kernel_rfl : _ = Value.int .i64 x153) c171 c198 W190) ?_)
            refine seqK rfl (does_put (e := (tInt .i64)) (E := 25) (vs := [.int .i64 (w64 (vt185 + (w64 ((rd s1.Dark x153) * beats15))))]) (u := w64 (vt185 + (w64 ((rd s1.Dark x153) * beats15)))) (i := x153) rfl (by kernel_rfl) (HO151.mono L189) HS191 rfl (by kernel_rfl : _ = Value.pointer (some ⟨b62, 0 + (x153 : Int).toNat * 1, none⟩)) (by kernel_rfl : _ = Value.int .i64 (w64 (vt185 + (w64 ((rd s1.Dark x153) * beats15))))) rfl rfl c171 c198 ?_)
            intro W202 s203 HS204 HO205
            refine seqRwS 9 (A := (some ⟨b62, 0, none⟩)) (m := out149.length) (n := (out149.set (x153).toNat (w64 (vt185 + (w64 ((rd s1.Dark x153) * beats15))))).length) (c := ((light11.length : Int)).toNat) (by kernel_rfl) (List.length_set).symm ?_
            refine seqRwS 51 (A := (some ⟨b62, 0, none⟩)) (m := out149.length) (n := (out149.set (x153).toNat (w64 (vt185 + (w64 ((rd s1.Dark x153) * beats15))))).length) (c := ((light11.length : Int)).toNat) (by kernel_rfl) (List.length_set).symm ?_
            refine wpList_nil ?_
            refine hn164 _ _ ?_
            refine hK161 _ _ ?_
            refine wp_region_lit ?_
            refine seqS2 (a' := ⟨#[.agg #[.int .i64 s1.W, .int .i64 s1.H, .slice A2 s1.Bias.length c3, .slice (some ⟨b196, of197, none⟩) s1.Dark.length c6, .slice (some ⟨b183, of184, none⟩) s1.Flat.length c9, .int .i64 s1.Full, .int .i64 s1.Gain, .int .i64 s1.Noise], .slice (some ⟨b175, of176, none⟩) light11.length c13, .int .i64 beats15, .pointer (some ⟨b18, 0, none⟩), undef, undef, .slice none 0 0, .int .i64 0, .int .i64 vt26, .slice (some ⟨b62, 0, none⟩) (out149.set (x153).toNat (w64 (vt185 + (w64 ((rd s1.Dark x153) * beats15))))).length ((light11.length : Int)).toNat, .int .i64 x153, .int .i64 (rd light11 x153), .int .i64 vt185, .int .i64 vt186, .agg #[.int .i64 s1.W, .int .i64 s1.H, .slice A2 s1.Bias.length c3, .slice (some ⟨b196, of197, none⟩) s1.Dark.length c6, .slice (some ⟨b183, of184, none⟩) s1.Flat.length c9, .int .i64 s1.Full, .int .i64 s1.Gain, .int .i64 s1.Noise], .slice (some ⟨b175, of176, none⟩) light11.length c13, .int .i64 (light11.length : Int), .int .i64 vt26, .int .i64 vt26, .bool false, undef, .int .i64 beats15, .bool false, .bool false, .int .i64 beats15, .bool false, .bool false, .bool false, .slice (some ⟨b175, of176, none⟩) light11.length c13, .bool false, .bool false, .slice (some ⟨b175, of176, none⟩) light11.length c13, .int .i64 (light11.length : Int), .slice (some ⟨b62, 0, none⟩) (List.replicate ((light11.length : Int)).toNat (0 : Int)).length ((light11.length : Int)).toNat, .slice (some ⟨b175, of176, none⟩) light11.length c13, .int .i64 (light11.length : Int), .int .i64 (w64 (x153 + 1)), .bool true, .int .i64 x153, .pointer (some ⟨b175, of176 + (x153 : Int).toNat * 1, none⟩), .int .i64 (rd light11 x153), .tuple #[.int .i64 vt185, .int .i64 vt186], .int .i64 (rd light11 x153), .pointer (some ⟨b18, 4, none⟩), .slice (some ⟨b183, of184, none⟩) s1.Flat.length c9, .int .i64 x153, .pointer (some ⟨b183, of184 + (x153 : Int).toNat * 1, none⟩), .int .i64 (rd s1.Flat x153), .tuple #[.int .i64 vt185, .int .i64 vt186], .int .i64 vt185, .int .i64 vt186, .slice (some ⟨b62, 0, none⟩) (out149.set (x153).toNat (w64 (vt185 + (w64 ((rd s1.Dark x153) * beats15))))).length ((light11.length : Int)).toNat, .int .i64 x153, .int .i64 vt185, .pointer (some ⟨b18, 3, none⟩), .slice (some ⟨b196, of197, none⟩) s1.Dark.length c6, .int .i64 x153, .pointer (some ⟨b196, of197 + (x153 : Int).toNat * 1, none⟩), .int .i64 (rd s1.Dark x153), .int .i64 beats15, .int .i64 (w64 ((rd s1.Dark x153) * beats15)), .int .i64 (w64 (vt185 + (w64 ((rd s1.Dark x153) * beats15)))), .pointer (some ⟨b62, 0 + (x153 : Int).toNat * 1, none⟩), .int .i64 (w64 (x153 + 1)), undef], []⟩) (by kernel_rfl) ?_
            refine wpList_nil ?_
            refine hK142 n143 _ _ (Nat.lt_succ_self _) ?_
            exact ⟨f188, s203, (out149.set (x153).toNat (w64 (vt185 + (w64 ((rd s1.Dark x153) * beats15))))), (w64 (x153 + 1)), (fun i_ => [Value.int .i64 x153, Value.int .i64 (rd light11 x153), Value.int .i64 vt185, Value.int .i64 vt186, Value.bool true, Value.int .i64 x153, Value.pointer (some ⟨b175, of176 + (x153 : Int).toNat * 1, none⟩), Value.int .i64 (rd light11 x153), Value.tuple #[.int .i64 vt185, .int .i64 vt186], Value.int .i64 (rd light11 x153), Value.pointer (some ⟨b18, 4, none⟩), Value.slice (some ⟨b183, of184, none⟩) s1.Flat.length c9, Value.int .i64 x153, Value.pointer (some ⟨b183, of184 + (x153 : Int).toNat * 1, none⟩), Value.int .i64 (rd s1.Flat x153), Value.tuple #[.int .i64 vt185, .int .i64 vt186], Value.int .i64 vt185, Value.int .i64 vt186, Value.slice (some ⟨b62, 0, none⟩) (out149.set (x153).toNat (w64 (vt185 + (w64 ((rd s1.Dark x153) * beats15))))).length ((light11.length : Int)).toNat, Value.int .i64 x153, Value.int .i64 vt185, Value.pointer (some ⟨b18, 3, none⟩), Value.slice (some ⟨b196, of197, none⟩) s1.Dark.length c6, Value.int .i64 x153, Value.pointer (some ⟨b196, of197 + (x153 : Int).toNat * 1, none⟩), Value.int .i64 (rd s1.Dark x153), Value.int .i64 beats15, Value.int .i64 (w64 ((rd s1.Dark x153) * beats15)), Value.int .i64 (w64 (vt185 + (w64 ((rd s1.Dark x153) * beats15)))), Value.pointer (some ⟨b62, 0 + (x153 : Int).toNat * 1, none⟩), Value.int .i64 (w64 (x153 + 1))].getD i_ undef), (L145.trans L189), HS204, HO205, (List.length_set.trans HL152), h, (by kernel_rfl)⟩
          · have c159 : ¬ (x153 < (light11.length : Int)) := c159
            refine wpRwI 37 (x := (decide (x153 < (light11.length : Int)))) (v := false) (by kernel_rfl) (decide_eq_false c159) ?_
            refine condF (by kernel_rfl) ?_
            refine wp_exit ?_
            refine hx73 _ _ ?_
            exact J216 f144 s150 out149 (fun i_ => [(j148 0), (j148 1), (j148 2), (j148 3), Value.int .i64 x153, Value.bool false, (j148 5), (j148 6), (j148 7), (j148 8), (j148 9), (j148 10), (j148 11), (j148 12), (j148 13), (j148 14), (j148 15), (j148 16), (j148 17), (j148 18), (j148 19), (j148 20), (j148 21), (j148 22), (j148 23), (j148 24), (j148 25), (j148 26), (j148 27), (j148 28), (j148 29), (j148 30)].getD i_ undef) W146 _ L145 h HS147 HO151 HL152 (by kernel_rfl)

set_option maxRecDepth 100000 in
set_option maxHeartbeats 4000000 in
theorem slices_Equal_Quanta.calls (k : Nat) (A2 : Option Addr) (c3 : Nat) (A6 : Option Addr) (c7 : Nat) (s11 : List Int) (s25 : List Int) {t w : World} {f : FM} {H : List Seg} (HS : St t w f (H)) (HR4 : SlR (tInt .i64) f A2 c3 s11) (HR8 : SlR (tInt .i64) f A6 c7 s25) (r1 : Bool) (h : slices_Equal_Quanta k s11 s25 = some r1) :
    Calls Try.prog 51 #[.slice A2 s11.length c3, .slice A6 s25.length c7] w (fun e w' => ∃ (g : FM), e = .returned (Value.bool r1) ∧ FM.le f g ∧ St t w' g (H)) := by
  unfold slices_Equal_Quanta at h
  refine enter Try.func51 rfl (tm := #[.slice A2 s11.length c3, .slice A6 s25.length c7, undef, undef, undef, undef, undef, undef, undef, undef, undef, undef, undef, undef, undef, undef, undef, undef, undef, undef, undef, undef, undef, undef, undef, undef]) (by kernel_rfl) ?_
  intro B hret hnor hnp
  refine wp_seq_k (fun K9 hK10 => ?_)
  refine wp_region_lit ?_
  refine seqS1 (a' := ⟨#[.slice A2 s11.length c3, .slice A6 s25.length c7, undef, undef, .bool false, undef, undef, undef, undef, undef, undef, undef, undef, undef, undef, undef, undef, undef, undef, undef, undef, undef, undef, undef, undef, undef], []⟩) (by kernel_rfl) ?_
  refine wpList_nil ?_
  refine hK10 _ _ ?_
  refine wp_seq_k (fun K11 hK12 => ?_)
  refine wp_seq_k (fun K13 hK14 => ?_)
  refine wp_region_lit ?_
  refine seqS5 (a' := ⟨#[.slice A2 s11.length c3, .slice A6 s25.length c7, undef, undef, .bool false, undef, .slice A2 s11.length c3, .int .i64 (s11.length : Int), .slice A6 s25.length c7, .int .i64 (s25.length : Int), .bool ((s11.length : Int) != (s25.length : Int)), undef, undef, undef, undef, undef, undef, undef, undef, undef, undef, undef, undef, undef, undef, undef], []⟩) (by kernel_rfl) ?_
  refine wpList_nil ?_
  refine hK14 _ _ ?_
  have hq_ := ite_some h; clear h; rcases hq_ with ⟨c16, h⟩ | ⟨c16, h⟩
  · have c16 : (s11.length : Int) ≠ (s25.length : Int) := c16
    refine wpRwI 10 (x := ((s11.length : Int) != (s25.length : Int))) (v := true) (by kernel_rfl) (bne_iff_ne.mpr c16) ?_
    refine condT (by kernel_rfl) ?_
    refine wp_seq_k (fun K17 hK18 => ?_)
    refine wp_region_lit ?_
    refine seqS1 (a' := ⟨#[.slice A2 s11.length c3, .slice A6 s25.length c7, undef, undef, .bool false, undef, .slice A2 s11.length c3, .int .i64 (s11.length : Int), .slice A6 s25.length c7, .int .i64 (s25.length : Int), .bool true, undef, undef, undef, undef, undef, undef, undef, undef, undef, undef, undef, undef, undef, undef, undef], []⟩) (by kernel_rfl) ?_
    refine wpList_nil ?_
    refine hK18 _ _ ?_
    refine wp_ret ?_
    refine hret _ _ ?_
    refine ends_still (v := Value.bool false) (by kernel_rfl) (by kernel_rfl) ?_
    injection h with h
    subst h
    exact ⟨f, rfl, FM.le.refl _, HS⟩
  · have c16 : ¬ ((s11.length : Int) ≠ (s25.length : Int)) := c16
    refine wpRwI 10 (x := ((s11.length : Int) != (s25.length : Int))) (v := false) (by kernel_rfl) (bne_eq_false_iff_eq.mpr (Decidable.of_not_not c16)) ?_
    refine condF (by kernel_rfl) ?_
    refine wp_skip ?_
    refine hK12 _ _ ?_
    refine wp_seq_k (fun K19 hK20 => ?_)
    refine wp_seq_k (fun K21 hK22 => ?_)
    refine wp_region_lit ?_
    refine seqS3 (a' := ⟨#[.slice A2 s11.length c3, .slice A6 s25.length c7, undef, undef, .bool false, undef, .slice A2 s11.length c3, .int .i64 (s11.length : Int), .slice A6 s25.length c7, .int .i64 (s25.length : Int), .bool false, .slice A2 s11.length c3, .int .i64 (s11.length : Int), .int .i64 0, undef, undef, undef, undef, undef, undef, undef, undef, undef, undef, undef, undef], []⟩) (by kernel_rfl) ?_
    refine wpList_nil ?_
    refine hK22 _ _ ?_
    refine blockK (fun B23 hx24 hn25 hr26 ho27 hp28 => ?_)
    have hq_ := bind_some h; clear h; obtain ⟨o29, hv81, h⟩ := hq_
    have JR83 : ∀ z_, some (Sum.inl z_) = some o29 → some z_ = some r1 := by
      intro z_ e_; injection e_ with e_; subst e_; exact h
    have J82 : ∀ (f76 : FM) (j80 : Nat → Value) (W78 : World) (a_ : Act), FM.le f f76 → some (Sum.inr ()) = some o29 → St t W78 f76 (H) → a_ = ⟨#[.slice A2 s11.length c3, .slice A6 s25.length c7, undef, undef, (j80 0), (j80 1), .slice A2 s11.length c3, .int .i64 (s11.length : Int), .slice A6 s25.length c7, .int .i64 (s25.length : Int), .bool false, .slice A2 s11.length c3, .int .i64 (s11.length : Int), (j80 2), (j80 3), (j80 4), (j80 5), (j80 6), (j80 7), (j80 8), (j80 9), (j80 10), (j80 11), (j80 12), (j80 13), (j80 14)], []⟩ → K19 a_ W78 := by
      intro f76 j80 W78 a_ L77 hj84 HS79  hfr_; subst hfr_
      injection hj84 with hj84; subst hj84; try dsimp only at h
      simp only [Sum.elim_inr] at h
      refine hK20 _ _ ?_
      refine wp_seq_k (fun K85 hK86 => ?_)
      refine wp_region_lit ?_
      refine seqS1 (a' := ⟨#[.slice A2 s11.length c3, .slice A6 s25.length c7, undef, undef, .bool true, (j80 1), .slice A2 s11.length c3, .int .i64 (s11.length : Int), .slice A6 s25.length c7, .int .i64 (s25.length : Int), .bool false, .slice A2 s11.length c3, .int .i64 (s11.length : Int), (j80 2), (j80 3), (j80 4), (j80 5), (j80 6), (j80 7), (j80 8), (j80 9), (j80 10), (j80 11), (j80 12), (j80 13), (j80 14)], []⟩) (by kernel_rfl) ?_
      refine wpList_nil ?_
      refine hK86 _ _ ?_
      refine wp_ret ?_
      refine hret _ _ ?_
      refine ends_still (v := Value.bool true) (by kernel_rfl) (by kernel_rfl) ?_
      injection h with h
      subst h
      exact ⟨f76, rfl, L77, HS79⟩
    clear h; have h := hv81; clear hv81
    refine loopK (fun n_ a_ w_ => ∃ (f33 : FM) (x38 : Int) (j37 : Nat → Value), FM.le f f33 ∧ St t w_ f33 (H) ∧ slices_Equal_Quanta.l0 k s11 s25 n_ x38 = some o29 ∧ a_ = ⟨#[.slice A2 s11.length c3, .slice A6 s25.length c7, undef, undef, (j37 0), (j37 1), .slice A2 s11.length c3, .int .i64 (s11.length : Int), .slice A6 s25.length c7, .int .i64 (s25.length : Int), .bool false, .slice A2 s11.length c3, .int .i64 (s11.length : Int), .int .i64 x38, (j37 2), (j37 3), (j37 4), (j37 5), (j37 6), (j37 7), (j37 8), (j37 9), (j37 10), (j37 11), (j37 12), (j37 13)], []⟩) k ⟨f, 0, (fun i_ => [Value.bool false, undef, undef, undef, undef, undef, undef, undef, undef, undef, undef, undef, undef, undef].getD i_ undef), (FM.le.refl _), HS, h, (by kernel_rfl)⟩ ?_
    clear h
    rintro n32 _ W35 ⟨f33, x38, j37, L34, HS36, h, rfl⟩ K30 hK31
    obtain _ | n32 := n32
    · exact nomatch h
    simp only [slices_Equal_Quanta.l0] at h
    refine wp_seq_k (fun K39 hK40 => ?_)
    refine wp_region_lit ?_
    refine seqS1 (a' := ⟨#[.slice A2 s11.length c3, .slice A6 s25.length c7, undef, undef, (j37 0), (j37 1), .slice A2 s11.length c3, .int .i64 (s11.length : Int), .slice A6 s25.length c7, .int .i64 (s25.length : Int), .bool false, .slice A2 s11.length c3, .int .i64 (s11.length : Int), .int .i64 x38, .bool (decide (x38 < (s11.length : Int))), (j37 3), (j37 4), (j37 5), (j37 6), (j37 7), (j37 8), (j37 9), (j37 10), (j37 11), (j37 12), (j37 13)], []⟩) (by kernel_rfl) ?_
    refine wpList_nil ?_
    refine hK40 _ _ ?_
    refine wp_seq_k (fun K41 hK42 => ?_)
    have hq_ := ite_some h; clear h; rcases hq_ with ⟨c44, h⟩ | ⟨c44, h⟩
    · have c44 : x38 < (s11.length : Int) := c44
      refine wpRwI 14 (x := (decide (x38 < (s11.length : Int)))) (v := true) (by kernel_rfl) (decide_eq_true c44) ?_
      refine condT (by kernel_rfl) ?_
      refine wp_skip ?_
      refine hK42 _ _ ?_
      refine wp_seq_k (fun K45 hK46 => ?_)
      refine blockK (fun B47 hx48 hn49 hr50 ho51 hp52 => ?_)
      refine wp_seq_k (fun K54 hK55 => ?_)
      refine wp_region_lit ?_
      refine seqS2 (a' := ⟨#[.slice A2 s11.length c3, .slice A6 s25.length c7, undef, undef, (j37 0), .int .i64 x38, .slice A2 s11.length c3, .int .i64 (s11.length : Int), .slice A6 s25.length c7, .int .i64 (s25.length : Int), .bool false, .slice A2 s11.length c3, .int .i64 (s11.length : Int), .int .i64 x38, .bool true, .int .i64 x38, (j37 4), (j37 5), (j37 6), (j37 7), (j37 8), (j37 9), (j37 10), (j37 11), (j37 12), (j37 13)], []⟩) (by kernel_rfl) ?_
      refine wpList_nil ?_
      refine hK55 _ _ ?_
      refine wp_seq_k (fun K56 hK57 => ?_)
      refine heldG (S := Sg t f33 (H) []) (n := 9) (by kernel_rfl) rfl HS36 ?_
      intro W58 HS59
      have hq_ := guard_some h; clear h; obtain ⟨c60, h⟩ := hq_
      have c60 : 0 ≤ x38 := c60
      obtain ⟨b64, of65, cs61, rfl, hr62, hc63⟩ := (HR4.mono L34).at (i := x38) c60 c44
      obtain rfl := hr62
      refine takeG [0, 1] (n := 9) (fuel := 7) (l' := #[true, true, false, false, false, false, false, false, false]) (a' := ⟨#[.slice (some ⟨b64, of65, none⟩) s11.length c3, .slice A6 s25.length c7, undef, undef, (j37 0), .int .i64 x38, .slice (some ⟨b64, of65, none⟩) s11.length c3, .int .i64 (s11.length : Int), .slice A6 s25.length c7, .int .i64 (s25.length : Int), .bool false, .slice (some ⟨b64, of65, none⟩) s11.length c3, .int .i64 (s11.length : Int), .int .i64 x38, .bool true, .int .i64 x38, .slice (some ⟨b64, of65, none⟩) s11.length c3, .int .i64 x38, (j37 6), (j37 7), (j37 8), (j37 9), (j37 10), (j37 11), (j37 12), (j37 13)], []⟩) rfl (by kernel_rfl) (by kernel_rfl) (by kernel_rfl) (fun ch_ a_ w_ q_ => (fun ch_ a_ w_ q_ => hnp ch_ a_ w_ (hp28 ch_ a_ w_ q_)) ch_ a_ w_ (hp52 ch_ a_ w_ q_)) (Sg.g0 (Sx.of [] (FM.le.refl _) HS59)) ?_
      refine takeGQ 2 [] rfl (by kernel_rfl) (by kernel_rfl) (by kernel_rfl) (by kernel_rfl) (by kernel_rfl) (by kernel_rfl) (fun ch_ a_ w_ q_ => (fun ch_ a_ w_ q_ => hnp ch_ a_ w_ (hp28 ch_ a_ w_ q_)) ch_ a_ w_ (hp52 ch_ a_ w_ q_)) (Sg.g0 (Sx.of [] (FM.le.refl _) HS59)) (fun w_ hw_ => by obtain ⟨g_, hl_, hS_⟩ := hw_.st; exact run_index (sz := 1) rfl Try.underlying48 (by kernel_rfl) (by kernel_rfl : _ = Value.slice (some ⟨b64, of65, none⟩) s11.length c3) (by kernel_rfl : _ = Value.int .i64 x38) c60 c44 w_) ?_
      refine takeGQ 3 [] rfl (by kernel_rfl) (by kernel_rfl) (by kernel_rfl) (by kernel_rfl) (by kernel_rfl) (by kernel_rfl) (fun ch_ a_ w_ q_ => (fun ch_ a_ w_ q_ => hnp ch_ a_ w_ (hp28 ch_ a_ w_ q_)) ch_ a_ w_ (hp52 ch_ a_ w_ q_)) (Sg.g0 (Sx.of [] (FM.le.refl _) HS59)) (fun w_ hw_ => by obtain ⟨g_, hl_, hS_⟩ := hw_.st; exact run_load rfl Try.underlying22 rfl (by kernel_rfl : _ = Value.pointer (some ⟨b64, of65 + (x38 : Int).toNat * 1, none⟩)) ((hc63 hl_ hS_) 0 (by decide))) ?_
      have hq_ := guard_some h; clear h; obtain ⟨c66, h⟩ := hq_
      have c66 : x38 < (s25.length : Int) := c66
      obtain ⟨b70, of71, cs67, rfl, hr68, hc69⟩ := (HR8.mono L34).at (i := x38) c60 c66
      obtain rfl := hr68
      refine takeG [4, 5] (n := 5) (fuel := 3) (l' := #[true, true, true, true, true, true, false, false, false]) (a' := ⟨#[.slice (some ⟨b64, of65, none⟩) s11.length c3, .slice (some ⟨b70, of71, none⟩) s25.length c7, undef, undef, (j37 0), .int .i64 x38, .slice (some ⟨b64, of65, none⟩) s11.length c3, .int .i64 (s11.length : Int), .slice (some ⟨b70, of71, none⟩) s25.length c7, .int .i64 (s25.length : Int), .bool false, .slice (some ⟨b64, of65, none⟩) s11.length c3, .int .i64 (s11.length : Int), .int .i64 x38, .bool true, .int .i64 x38, .slice (some ⟨b64, of65, none⟩) s11.length c3, .int .i64 x38, .pointer (some ⟨b64, of65 + (x38 : Int).toNat * 1, none⟩), .int .i64 (rd s11 x38), .slice (some ⟨b70, of71, none⟩) s25.length c7, .int .i64 x38, (j37 10), (j37 11), (j37 12), (j37 13)], []⟩) rfl (by kernel_rfl) (by kernel_rfl) (by kernel_rfl) (fun ch_ a_ w_ q_ => (fun ch_ a_ w_ q_ => hnp ch_ a_ w_ (hp28 ch_ a_ w_ q_)) ch_ a_ w_ (hp52 ch_ a_ w_ q_)) (Sg.g0 (Sx.of [] (FM.le.refl _) HS59)) ?_
      refine takeGQ 6 [] rfl (by kernel_rfl) (by kernel_rfl) (by kernel_rfl) (by kernel_rfl) (by kernel_rfl) (by kernel_rfl) (fun ch_ a_ w_ q_ => (fun ch_ a_ w_ q_ => hnp ch_ a_ w_ (hp28 ch_ a_ w_ q_)) ch_ a_ w_ (hp52 ch_ a_ w_ q_)) (Sg.g0 (Sx.of [] (FM.le.refl _) HS59)) (fun w_ hw_ => by obtain ⟨g_, hl_, hS_⟩ := hw_.st; exact run_index (sz := 1) rfl Try.underlying48 (by kernel_rfl) (by kernel_rfl : _ = Value.slice (some ⟨b70, of71, none⟩) s25.length c7) (by kernel_rfl : _ = Value.int .i64 x38) c60 c66 w_) ?_
      refine takeGQ 7 [] rfl (by kernel_rfl) (by kernel_rfl) (by kernel_rfl) (by kernel_rfl) (by kernel_rfl) (by kernel_rfl) (fun ch_ a_ w_ q_ => (fun ch_ a_ w_ q_ => hnp ch_ a_ w_ (hp28 ch_ a_ w_ q_)) ch_ a_ w_ (hp52 ch_ a_ w_ q_)) (Sg.g0 (Sx.of [] (FM.le.refl _) HS59)) (fun w_ hw_ => by obtain ⟨g_, hl_, hS_⟩ := hw_.st; exact run_load rfl Try.underlying22 rfl (by kernel_rfl : _ = Value.pointer (some ⟨b70, of71 + (x38 : Int).toNat * 1, none⟩)) ((hc69 hl_ hS_) 0 (by decide))) ?_
      refine takeG [8] (n := 1) (fuel := 0) (l' := #[true, true, true, true, true, true, true, true, true]) (a' := ⟨#[.slice (some ⟨b64, of65, none⟩) s11.length c3, .slice (some ⟨b70, of71, none⟩) s25.length c7, undef, undef, (j37 0), .int .i64 x38, .slice (some ⟨b64, of65, none⟩) s11.length c3, .int .i64 (s11.length : Int), .slice (some ⟨b70, of71, none⟩) s25.length c7, .int .i64 (s25.length : Int), .bool false, .slice (some ⟨b64, of65, none⟩) s11.length c3, .int .i64 (s11.length : Int), .int .i64 x38, .bool true, .int .i64 x38, .slice (some ⟨b64, of65, none⟩) s11.length c3, .int .i64 x38, .pointer (some ⟨b64, of65 + (x38 : Int).toNat * 1, none⟩), .int .i64 (rd s11 x38), .slice (some ⟨b70, of71, none⟩) s25.length c7, .int .i64 x38, .pointer (some ⟨b70, of71 + (x38 : Int).toNat * 1, none⟩), .int .i64 (rd s25 x38), .bool ((rd s11 x38) != (rd s25 x38)), (j37 13)], []⟩) rfl (by kernel_rfl) (by kernel_rfl) (by kernel_rfl) (fun ch_ a_ w_ q_ => (fun ch_ a_ w_ q_ => hnp ch_ a_ w_ (hp28 ch_ a_ w_ q_)) ch_ a_ w_ (hp52 ch_ a_ w_ q_)) (Sg.g0 (Sx.of [] (FM.le.refl _) HS59)) ?_
      refine doneG (by kernel_rfl) ?_ _
      refine hK57 _ _ ?_
      have hq_ := ite_some h; clear h; rcases hq_ with ⟨c73, h⟩ | ⟨c73, h⟩
      · have c73 : (rd s11 x38) ≠ (rd s25 x38) := c73
        refine wpRwI 24 (x := ((rd s11 x38) != (rd s25 x38))) (v := true) (by kernel_rfl) (bne_iff_ne.mpr c73) ?_
        refine condT (by kernel_rfl) ?_
        refine wp_seq_k (fun K74 hK75 => ?_)
        refine wp_region_lit ?_
        refine seqS1 (a' := ⟨#[.slice (some ⟨b64, of65, none⟩) s11.length c3, .slice (some ⟨b70, of71, none⟩) s25.length c7, undef, undef, .bool false, .int .i64 x38, .slice (some ⟨b64, of65, none⟩) s11.length c3, .int .i64 (s11.length : Int), .slice (some ⟨b70, of71, none⟩) s25.length c7, .int .i64 (s25.length : Int), .bool false, .slice (some ⟨b64, of65, none⟩) s11.length c3, .int .i64 (s11.length : Int), .int .i64 x38, .bool true, .int .i64 x38, .slice (some ⟨b64, of65, none⟩) s11.length c3, .int .i64 x38, .pointer (some ⟨b64, of65 + (x38 : Int).toNat * 1, none⟩), .int .i64 (rd s11 x38), .slice (some ⟨b70, of71, none⟩) s25.length c7, .int .i64 x38, .pointer (some ⟨b70, of71 + (x38 : Int).toNat * 1, none⟩), .int .i64 (rd s25 x38), .bool true, (j37 13)], []⟩) (by kernel_rfl) ?_
        refine wpList_nil ?_
        refine hK75 _ _ ?_
        refine wp_ret ?_
        refine hr50 _ _ ?_
        refine hr26 _ _ ?_
        refine hret _ _ ?_
        refine ends_still (v := Value.bool false) (by kernel_rfl) (by kernel_rfl) ?_
        replace h := JR83 _ h
        injection h with h
        subst h
        exact ⟨f33, rfl, L34, HS59⟩
      · have c73 : ¬ ((rd s11 x38) ≠ (rd s25 x38)) := c73
        refine wpRwI 24 (x := ((rd s11 x38) != (rd s25 x38))) (v := false) (by kernel_rfl) (bne_eq_false_iff_eq.mpr (Decidable.of_not_not c73)) ?_
        refine condF (by kernel_rfl) ?_
        refine wp_skip ?_
        refine hn49 _ _ ?_
        refine hK46 _ _ ?_
        refine wp_region_lit ?_
        refine seqS2 (a' := ⟨#[.slice (some ⟨b64, of65, none⟩) s11.length c3, .slice (some ⟨b70, of71, none⟩) s25.length c7, undef, undef, (j37 0), .int .i64 x38, .slice (some ⟨b64, of65, none⟩) s11.length c3, .int .i64 (s11.length : Int), .slice (some ⟨b70, of71, none⟩) s25.length c7, .int .i64 (s25.length : Int), .bool false, .slice (some ⟨b64, of65, none⟩) s11.length c3, .int .i64 (s11.length : Int), .int .i64 (w64 (x38 + 1)), .bool true, .int .i64 x38, .slice (some ⟨b64, of65, none⟩) s11.length c3, .int .i64 x38, .pointer (some ⟨b64, of65 + (x38 : Int).toNat * 1, none⟩), .int .i64 (rd s11 x38), .slice (some ⟨b70, of71, none⟩) s25.length c7, .int .i64 x38, .pointer (some ⟨b70, of71 + (x38 : Int).toNat * 1, none⟩), .int .i64 (rd s25 x38), .bool false, .int .i64 (w64 (x38 + 1))], []⟩) (by kernel_rfl) ?_
        refine wpList_nil ?_
        refine hK31 n32 _ _ (Nat.lt_succ_self _) ?_
        exact ⟨f33, (w64 (x38 + 1)), (fun i_ => [(j37 0), Value.int .i64 x38, Value.bool true, Value.int .i64 x38, Value.slice (some ⟨b64, of65, none⟩) s11.length c3, Value.int .i64 x38, Value.pointer (some ⟨b64, of65 + (x38 : Int).toNat * 1, none⟩), Value.int .i64 (rd s11 x38), Value.slice (some ⟨b70, of71, none⟩) s25.length c7, Value.int .i64 x38, Value.pointer (some ⟨b70, of71 + (x38 : Int).toNat * 1, none⟩), Value.int .i64 (rd s25 x38), Value.bool false, Value.int .i64 (w64 (x38 + 1))].getD i_ undef), L34, HS59, h, (by kernel_rfl)⟩
    · have c44 : ¬ (x38 < (s11.length : Int)) := c44
      refine wpRwI 14 (x := (decide (x38 < (s11.length : Int)))) (v := false) (by kernel_rfl) (decide_eq_false c44) ?_
      refine condF (by kernel_rfl) ?_
      refine wp_exit ?_
      refine hx24 _ _ ?_
      exact J82 f33 (fun i_ => [(j37 0), (j37 1), Value.int .i64 x38, Value.bool false, (j37 3), (j37 4), (j37 5), (j37 6), (j37 7), (j37 8), (j37 9), (j37 10), (j37 11), (j37 12), (j37 13)].getD i_ undef) W35 _ L34 h HS36 (by kernel_rfl)

set_option maxRecDepth 100000 in
set_option maxHeartbeats 4000000 in
theorem slices_Equal_Light.calls (k : Nat) (A2 : Option Addr) (c3 : Nat) (A6 : Option Addr) (c7 : Nat) (s11 : List Int) (s25 : List Int) {t w : World} {f : FM} {H : List Seg} (HS : St t w f (H)) (HR4 : SlR (tInt .i64) f A2 c3 s11) (HR8 : SlR (tInt .i64) f A6 c7 s25) (r1 : Bool) (h : slices_Equal_Light k s11 s25 = some r1) :
    Calls Try.prog 52 #[.slice A2 s11.length c3, .slice A6 s25.length c7] w (fun e w' => ∃ (g : FM), e = .returned (Value.bool r1) ∧ FM.le f g ∧ St t w' g (H)) := by
  unfold slices_Equal_Light at h
  refine enter Try.func52 rfl (tm := #[.slice A2 s11.length c3, .slice A6 s25.length c7, undef, undef, undef, undef, undef, undef, undef, undef, undef, undef, undef, undef, undef, undef, undef, undef, undef, undef, undef, undef, undef, undef, undef, undef]) (by kernel_rfl) ?_
  intro B hret hnor hnp
  refine wp_seq_k (fun K9 hK10 => ?_)
  refine wp_region_lit ?_
  refine seqS1 (a' := ⟨#[.slice A2 s11.length c3, .slice A6 s25.length c7, undef, undef, .bool false, undef, undef, undef, undef, undef, undef, undef, undef, undef, undef, undef, undef, undef, undef, undef, undef, undef, undef, undef, undef, undef], []⟩) (by kernel_rfl) ?_
  refine wpList_nil ?_
  refine hK10 _ _ ?_
  refine wp_seq_k (fun K11 hK12 => ?_)
  refine wp_seq_k (fun K13 hK14 => ?_)
  refine wp_region_lit ?_
  refine seqS5 (a' := ⟨#[.slice A2 s11.length c3, .slice A6 s25.length c7, undef, undef, .bool false, undef, .slice A2 s11.length c3, .int .i64 (s11.length : Int), .slice A6 s25.length c7, .int .i64 (s25.length : Int), .bool ((s11.length : Int) != (s25.length : Int)), undef, undef, undef, undef, undef, undef, undef, undef, undef, undef, undef, undef, undef, undef, undef], []⟩) (by kernel_rfl) ?_
  refine wpList_nil ?_
  refine hK14 _ _ ?_
  have hq_ := ite_some h; clear h; rcases hq_ with ⟨c16, h⟩ | ⟨c16, h⟩
  · have c16 : (s11.length : Int) ≠ (s25.length : Int) := c16
    refine wpRwI 10 (x := ((s11.length : Int) != (s25.length : Int))) (v := true) (by kernel_rfl) (bne_iff_ne.mpr c16) ?_
    refine condT (by kernel_rfl) ?_
    refine wp_seq_k (fun K17 hK18 => ?_)
    refine wp_region_lit ?_
    refine seqS1 (a' := ⟨#[.slice A2 s11.length c3, .slice A6 s25.length c7, undef, undef, .bool false, undef, .slice A2 s11.length c3, .int .i64 (s11.length : Int), .slice A6 s25.length c7, .int .i64 (s25.length : Int), .bool true, undef, undef, undef, undef, undef, undef, undef, undef, undef, undef, undef, undef, undef, undef, undef], []⟩) (by kernel_rfl) ?_
    refine wpList_nil ?_
    refine hK18 _ _ ?_
    refine wp_ret ?_
    refine hret _ _ ?_
    refine ends_still (v := Value.bool false) (by kernel_rfl) (by kernel_rfl) ?_
    injection h with h
    subst h
    exact ⟨f, rfl, FM.le.refl _, HS⟩
  · have c16 : ¬ ((s11.length : Int) ≠ (s25.length : Int)) := c16
    refine wpRwI 10 (x := ((s11.length : Int) != (s25.length : Int))) (v := false) (by kernel_rfl) (bne_eq_false_iff_eq.mpr (Decidable.of_not_not c16)) ?_
    refine condF (by kernel_rfl) ?_
    refine wp_skip ?_
    refine hK12 _ _ ?_
    refine wp_seq_k (fun K19 hK20 => ?_)
    refine wp_seq_k (fun K21 hK22 => ?_)
    refine wp_region_lit ?_
    refine seqS3 (a' := ⟨#[.slice A2 s11.length c3, .slice A6 s25.length c7, undef, undef, .bool false, undef, .slice A2 s11.length c3, .int .i64 (s11.length : Int), .slice A6 s25.length c7, .int .i64 (s25.length : Int), .bool false, .slice A2 s11.length c3, .int .i64 (s11.length : Int), .int .i64 0, undef, undef, undef, undef, undef, undef, undef, undef, undef, undef, undef, undef], []⟩) (by kernel_rfl) ?_
    refine wpList_nil ?_
    refine hK22 _ _ ?_
    refine blockK (fun B23 hx24 hn25 hr26 ho27 hp28 => ?_)
    have hq_ := bind_some h; clear h; obtain ⟨o29, hv81, h⟩ := hq_
    have JR83 : ∀ z_, some (Sum.inl z_) = some o29 → some z_ = some r1 := by
      intro z_ e_; injection e_ with e_; subst e_; exact h
    have J82 : ∀ (f76 : FM) (j80 : Nat → Value) (W78 : World) (a_ : Act), FM.le f f76 → some (Sum.inr ()) = some o29 → St t W78 f76 (H) → a_ = ⟨#[.slice A2 s11.length c3, .slice A6 s25.length c7, undef, undef, (j80 0), (j80 1), .slice A2 s11.length c3, .int .i64 (s11.length : Int), .slice A6 s25.length c7, .int .i64 (s25.length : Int), .bool false, .slice A2 s11.length c3, .int .i64 (s11.length : Int), (j80 2), (j80 3), (j80 4), (j80 5), (j80 6), (j80 7), (j80 8), (j80 9), (j80 10), (j80 11), (j80 12), (j80 13), (j80 14)], []⟩ → K19 a_ W78 := by
      intro f76 j80 W78 a_ L77 hj84 HS79  hfr_; subst hfr_
      injection hj84 with hj84; subst hj84; try dsimp only at h
      simp only [Sum.elim_inr] at h
      refine hK20 _ _ ?_
      refine wp_seq_k (fun K85 hK86 => ?_)
      refine wp_region_lit ?_
      refine seqS1 (a' := ⟨#[.slice A2 s11.length c3, .slice A6 s25.length c7, undef, undef, .bool true, (j80 1), .slice A2 s11.length c3, .int .i64 (s11.length : Int), .slice A6 s25.length c7, .int .i64 (s25.length : Int), .bool false, .slice A2 s11.length c3, .int .i64 (s11.length : Int), (j80 2), (j80 3), (j80 4), (j80 5), (j80 6), (j80 7), (j80 8), (j80 9), (j80 10), (j80 11), (j80 12), (j80 13), (j80 14)], []⟩) (by kernel_rfl) ?_
      refine wpList_nil ?_
      refine hK86 _ _ ?_
      refine wp_ret ?_
      refine hret _ _ ?_
      refine ends_still (v := Value.bool true) (by kernel_rfl) (by kernel_rfl) ?_
      injection h with h
      subst h
      exact ⟨f76, rfl, L77, HS79⟩
    clear h; have h := hv81; clear hv81
    refine loopK (fun n_ a_ w_ => ∃ (f33 : FM) (x38 : Int) (j37 : Nat → Value), FM.le f f33 ∧ St t w_ f33 (H) ∧ slices_Equal_Light.l0 k s11 s25 n_ x38 = some o29 ∧ a_ = ⟨#[.slice A2 s11.length c3, .slice A6 s25.length c7, undef, undef, (j37 0), (j37 1), .slice A2 s11.length c3, .int .i64 (s11.length : Int), .slice A6 s25.length c7, .int .i64 (s25.length : Int), .bool false, .slice A2 s11.length c3, .int .i64 (s11.length : Int), .int .i64 x38, (j37 2), (j37 3), (j37 4), (j37 5), (j37 6), (j37 7), (j37 8), (j37 9), (j37 10), (j37 11), (j37 12), (j37 13)], []⟩) k ⟨f, 0, (fun i_ => [Value.bool false, undef, undef, undef, undef, undef, undef, undef, undef, undef, undef, undef, undef, undef].getD i_ undef), (FM.le.refl _), HS, h, (by kernel_rfl)⟩ ?_
    clear h
    rintro n32 _ W35 ⟨f33, x38, j37, L34, HS36, h, rfl⟩ K30 hK31
    obtain _ | n32 := n32
    · exact nomatch h
    simp only [slices_Equal_Light.l0] at h
    refine wp_seq_k (fun K39 hK40 => ?_)
    refine wp_region_lit ?_
    refine seqS1 (a' := ⟨#[.slice A2 s11.length c3, .slice A6 s25.length c7, undef, undef, (j37 0), (j37 1), .slice A2 s11.length c3, .int .i64 (s11.length : Int), .slice A6 s25.length c7, .int .i64 (s25.length : Int), .bool false, .slice A2 s11.length c3, .int .i64 (s11.length : Int), .int .i64 x38, .bool (decide (x38 < (s11.length : Int))), (j37 3), (j37 4), (j37 5), (j37 6), (j37 7), (j37 8), (j37 9), (j37 10), (j37 11), (j37 12), (j37 13)], []⟩) (by kernel_rfl) ?_
    refine wpList_nil ?_
    refine hK40 _ _ ?_
    refine wp_seq_k (fun K41 hK42 => ?_)
    have hq_ := ite_some h; clear h; rcases hq_ with ⟨c44, h⟩ | ⟨c44, h⟩
    · have c44 : x38 < (s11.length : Int) := c44
      refine wpRwI 14 (x := (decide (x38 < (s11.length : Int)))) (v := true) (by kernel_rfl) (decide_eq_true c44) ?_
      refine condT (by kernel_rfl) ?_
      refine wp_skip ?_
      refine hK42 _ _ ?_
      refine wp_seq_k (fun K45 hK46 => ?_)
      refine blockK (fun B47 hx48 hn49 hr50 ho51 hp52 => ?_)
      refine wp_seq_k (fun K54 hK55 => ?_)
      refine wp_region_lit ?_
      refine seqS2 (a' := ⟨#[.slice A2 s11.length c3, .slice A6 s25.length c7, undef, undef, (j37 0), .int .i64 x38, .slice A2 s11.length c3, .int .i64 (s11.length : Int), .slice A6 s25.length c7, .int .i64 (s25.length : Int), .bool false, .slice A2 s11.length c3, .int .i64 (s11.length : Int), .int .i64 x38, .bool true, .int .i64 x38, (j37 4), (j37 5), (j37 6), (j37 7), (j37 8), (j37 9), (j37 10), (j37 11), (j37 12), (j37 13)], []⟩) (by kernel_rfl) ?_
      refine wpList_nil ?_
      refine hK55 _ _ ?_
      refine wp_seq_k (fun K56 hK57 => ?_)
      refine heldG (S := Sg t f33 (H) []) (n := 9) (by kernel_rfl) rfl HS36 ?_
      intro W58 HS59
      have hq_ := guard_some h; clear h; obtain ⟨c60, h⟩ := hq_
      have c60 : 0 ≤ x38 := c60
      obtain ⟨b64, of65, cs61, rfl, hr62, hc63⟩ := (HR4.mono L34).at (i := x38) c60 c44
      obtain rfl := hr62
      refine takeG [0, 1] (n := 9) (fuel := 7) (l' := #[true, true, false, false, false, false, false, false, false]) (a' := ⟨#[.slice (some ⟨b64, of65, none⟩) s11.length c3, .slice A6 s25.length c7, undef, undef, (j37 0), .int .i64 x38, .slice (some ⟨b64, of65, none⟩) s11.length c3, .int .i64 (s11.length : Int), .slice A6 s25.length c7, .int .i64 (s25.length : Int), .bool false, .slice (some ⟨b64, of65, none⟩) s11.length c3, .int .i64 (s11.length : Int), .int .i64 x38, .bool true, .int .i64 x38, .slice (some ⟨b64, of65, none⟩) s11.length c3, .int .i64 x38, (j37 6), (j37 7), (j37 8), (j37 9), (j37 10), (j37 11), (j37 12), (j37 13)], []⟩) rfl (by kernel_rfl) (by kernel_rfl) (by kernel_rfl) (fun ch_ a_ w_ q_ => (fun ch_ a_ w_ q_ => hnp ch_ a_ w_ (hp28 ch_ a_ w_ q_)) ch_ a_ w_ (hp52 ch_ a_ w_ q_)) (Sg.g0 (Sx.of [] (FM.le.refl _) HS59)) ?_
      refine takeGQ 2 [] rfl (by kernel_rfl) (by kernel_rfl) (by kernel_rfl) (by kernel_rfl) (by kernel_rfl) (by kernel_rfl) (fun ch_ a_ w_ q_ => (fun ch_ a_ w_ q_ => hnp ch_ a_ w_ (hp28 ch_ a_ w_ q_)) ch_ a_ w_ (hp52 ch_ a_ w_ q_)) (Sg.g0 (Sx.of [] (FM.le.refl _) HS59)) (fun w_ hw_ => by obtain ⟨g_, hl_, hS_⟩ := hw_.st; exact run_index (sz := 1) rfl Try.underlying44 (by kernel_rfl) (by kernel_rfl : _ = Value.slice (some ⟨b64, of65, none⟩) s11.length c3) (by kernel_rfl : _ = Value.int .i64 x38) c60 c44 w_) ?_
      refine takeGQ 3 [] rfl (by kernel_rfl) (by kernel_rfl) (by kernel_rfl) (by kernel_rfl) (by kernel_rfl) (by kernel_rfl) (fun ch_ a_ w_ q_ => (fun ch_ a_ w_ q_ => hnp ch_ a_ w_ (hp28 ch_ a_ w_ q_)) ch_ a_ w_ (hp52 ch_ a_ w_ q_)) (Sg.g0 (Sx.of [] (FM.le.refl _) HS59)) (fun w_ hw_ => by obtain ⟨g_, hl_, hS_⟩ := hw_.st; exact run_load rfl Try.underlying25 rfl (by kernel_rfl : _ = Value.pointer (some ⟨b64, of65 + (x38 : Int).toNat * 1, none⟩)) ((hc63 hl_ hS_) 0 (by decide))) ?_
      have hq_ := guard_some h; clear h; obtain ⟨c66, h⟩ := hq_
      have c66 : x38 < (s25.length : Int) := c66
      obtain ⟨b70, of71, cs67, rfl, hr68, hc69⟩ := (HR8.mono L34).at (i := x38) c60 c66
      obtain rfl := hr68
      refine takeG [4, 5] (n := 5) (fuel := 3) (l' := #[true, true, true, true, true, true, false, false, false]) (a' := ⟨#[.slice (some ⟨b64, of65, none⟩) s11.length c3, .slice (some ⟨b70, of71, none⟩) s25.length c7, undef, undef, (j37 0), .int .i64 x38, .slice (some ⟨b64, of65, none⟩) s11.length c3, .int .i64 (s11.length : Int), .slice (some ⟨b70, of71, none⟩) s25.length c7, .int .i64 (s25.length : Int), .bool false, .slice (some ⟨b64, of65, none⟩) s11.length c3, .int .i64 (s11.length : Int), .int .i64 x38, .bool true, .int .i64 x38, .slice (some ⟨b64, of65, none⟩) s11.length c3, .int .i64 x38, .pointer (some ⟨b64, of65 + (x38 : Int).toNat * 1, none⟩), .int .i64 (rd s11 x38), .slice (some ⟨b70, of71, none⟩) s25.length c7, .int .i64 x38, (j37 10), (j37 11), (j37 12), (j37 13)], []⟩) rfl (by kernel_rfl) (by kernel_rfl) (by kernel_rfl) (fun ch_ a_ w_ q_ => (fun ch_ a_ w_ q_ => hnp ch_ a_ w_ (hp28 ch_ a_ w_ q_)) ch_ a_ w_ (hp52 ch_ a_ w_ q_)) (Sg.g0 (Sx.of [] (FM.le.refl _) HS59)) ?_
      refine takeGQ 6 [] rfl (by kernel_rfl) (by kernel_rfl) (by kernel_rfl) (by kernel_rfl) (by kernel_rfl) (by kernel_rfl) (fun ch_ a_ w_ q_ => (fun ch_ a_ w_ q_ => hnp ch_ a_ w_ (hp28 ch_ a_ w_ q_)) ch_ a_ w_ (hp52 ch_ a_ w_ q_)) (Sg.g0 (Sx.of [] (FM.le.refl _) HS59)) (fun w_ hw_ => by obtain ⟨g_, hl_, hS_⟩ := hw_.st; exact run_index (sz := 1) rfl Try.underlying44 (by kernel_rfl) (by kernel_rfl : _ = Value.slice (some ⟨b70, of71, none⟩) s25.length c7) (by kernel_rfl : _ = Value.int .i64 x38) c60 c66 w_) ?_
      refine takeGQ 7 [] rfl (by kernel_rfl) (by kernel_rfl) (by kernel_rfl) (by kernel_rfl) (by kernel_rfl) (by kernel_rfl) (fun ch_ a_ w_ q_ => (fun ch_ a_ w_ q_ => hnp ch_ a_ w_ (hp28 ch_ a_ w_ q_)) ch_ a_ w_ (hp52 ch_ a_ w_ q_)) (Sg.g0 (Sx.of [] (FM.le.refl _) HS59)) (fun w_ hw_ => by obtain ⟨g_, hl_, hS_⟩ := hw_.st; exact run_load rfl Try.underlying25 rfl (by kernel_rfl : _ = Value.pointer (some ⟨b70, of71 + (x38 : Int).toNat * 1, none⟩)) ((hc69 hl_ hS_) 0 (by decide))) ?_
      refine takeG [8] (n := 1) (fuel := 0) (l' := #[true, true, true, true, true, true, true, true, true]) (a' := ⟨#[.slice (some ⟨b64, of65, none⟩) s11.length c3, .slice (some ⟨b70, of71, none⟩) s25.length c7, undef, undef, (j37 0), .int .i64 x38, .slice (some ⟨b64, of65, none⟩) s11.length c3, .int .i64 (s11.length : Int), .slice (some ⟨b70, of71, none⟩) s25.length c7, .int .i64 (s25.length : Int), .bool false, .slice (some ⟨b64, of65, none⟩) s11.length c3, .int .i64 (s11.length : Int), .int .i64 x38, .bool true, .int .i64 x38, .slice (some ⟨b64, of65, none⟩) s11.length c3, .int .i64 x38, .pointer (some ⟨b64, of65 + (x38 : Int).toNat * 1, none⟩), .int .i64 (rd s11 x38), .slice (some ⟨b70, of71, none⟩) s25.length c7, .int .i64 x38, .pointer (some ⟨b70, of71 + (x38 : Int).toNat * 1, none⟩), .int .i64 (rd s25 x38), .bool ((rd s11 x38) != (rd s25 x38)), (j37 13)], []⟩) rfl (by kernel_rfl) (by kernel_rfl) (by kernel_rfl) (fun ch_ a_ w_ q_ => (fun ch_ a_ w_ q_ => hnp ch_ a_ w_ (hp28 ch_ a_ w_ q_)) ch_ a_ w_ (hp52 ch_ a_ w_ q_)) (Sg.g0 (Sx.of [] (FM.le.refl _) HS59)) ?_
      refine doneG (by kernel_rfl) ?_ _
      refine hK57 _ _ ?_
      have hq_ := ite_some h; clear h; rcases hq_ with ⟨c73, h⟩ | ⟨c73, h⟩
      · have c73 : (rd s11 x38) ≠ (rd s25 x38) := c73
        refine wpRwI 24 (x := ((rd s11 x38) != (rd s25 x38))) (v := true) (by kernel_rfl) (bne_iff_ne.mpr c73) ?_
        refine condT (by kernel_rfl) ?_
        refine wp_seq_k (fun K74 hK75 => ?_)
        refine wp_region_lit ?_
        refine seqS1 (a' := ⟨#[.slice (some ⟨b64, of65, none⟩) s11.length c3, .slice (some ⟨b70, of71, none⟩) s25.length c7, undef, undef, .bool false, .int .i64 x38, .slice (some ⟨b64, of65, none⟩) s11.length c3, .int .i64 (s11.length : Int), .slice (some ⟨b70, of71, none⟩) s25.length c7, .int .i64 (s25.length : Int), .bool false, .slice (some ⟨b64, of65, none⟩) s11.length c3, .int .i64 (s11.length : Int), .int .i64 x38, .bool true, .int .i64 x38, .slice (some ⟨b64, of65, none⟩) s11.length c3, .int .i64 x38, .pointer (some ⟨b64, of65 + (x38 : Int).toNat * 1, none⟩), .int .i64 (rd s11 x38), .slice (some ⟨b70, of71, none⟩) s25.length c7, .int .i64 x38, .pointer (some ⟨b70, of71 + (x38 : Int).toNat * 1, none⟩), .int .i64 (rd s25 x38), .bool true, (j37 13)], []⟩) (by kernel_rfl) ?_
        refine wpList_nil ?_
        refine hK75 _ _ ?_
        refine wp_ret ?_
        refine hr50 _ _ ?_
        refine hr26 _ _ ?_
        refine hret _ _ ?_
        refine ends_still (v := Value.bool false) (by kernel_rfl) (by kernel_rfl) ?_
        replace h := JR83 _ h
        injection h with h
        subst h
        exact ⟨f33, rfl, L34, HS59⟩
      · have c73 : ¬ ((rd s11 x38) ≠ (rd s25 x38)) := c73
        refine wpRwI 24 (x := ((rd s11 x38) != (rd s25 x38))) (v := false) (by kernel_rfl) (bne_eq_false_iff_eq.mpr (Decidable.of_not_not c73)) ?_
        refine condF (by kernel_rfl) ?_
        refine wp_skip ?_
        refine hn49 _ _ ?_
        refine hK46 _ _ ?_
        refine wp_region_lit ?_
        refine seqS2 (a' := ⟨#[.slice (some ⟨b64, of65, none⟩) s11.length c3, .slice (some ⟨b70, of71, none⟩) s25.length c7, undef, undef, (j37 0), .int .i64 x38, .slice (some ⟨b64, of65, none⟩) s11.length c3, .int .i64 (s11.length : Int), .slice (some ⟨b70, of71, none⟩) s25.length c7, .int .i64 (s25.length : Int), .bool false, .slice (some ⟨b64, of65, none⟩) s11.length c3, .int .i64 (s11.length : Int), .int .i64 (w64 (x38 + 1)), .bool true, .int .i64 x38, .slice (some ⟨b64, of65, none⟩) s11.length c3, .int .i64 x38, .pointer (some ⟨b64, of65 + (x38 : Int).toNat * 1, none⟩), .int .i64 (rd s11 x38), .slice (some ⟨b70, of71, none⟩) s25.length c7, .int .i64 x38, .pointer (some ⟨b70, of71 + (x38 : Int).toNat * 1, none⟩), .int .i64 (rd s25 x38), .bool false, .int .i64 (w64 (x38 + 1))], []⟩) (by kernel_rfl) ?_
        refine wpList_nil ?_
        refine hK31 n32 _ _ (Nat.lt_succ_self _) ?_
        exact ⟨f33, (w64 (x38 + 1)), (fun i_ => [(j37 0), Value.int .i64 x38, Value.bool true, Value.int .i64 x38, Value.slice (some ⟨b64, of65, none⟩) s11.length c3, Value.int .i64 x38, Value.pointer (some ⟨b64, of65 + (x38 : Int).toNat * 1, none⟩), Value.int .i64 (rd s11 x38), Value.slice (some ⟨b70, of71, none⟩) s25.length c7, Value.int .i64 x38, Value.pointer (some ⟨b70, of71 + (x38 : Int).toNat * 1, none⟩), Value.int .i64 (rd s25 x38), Value.bool false, Value.int .i64 (w64 (x38 + 1))].getD i_ undef), L34, HS59, h, (by kernel_rfl)⟩
    · have c44 : ¬ (x38 < (s11.length : Int)) := c44
      refine wpRwI 14 (x := (decide (x38 < (s11.length : Int)))) (v := false) (by kernel_rfl) (decide_eq_false c44) ?_
      refine condF (by kernel_rfl) ?_
      refine wp_exit ?_
      refine hx24 _ _ ?_
      exact J82 f33 (fun i_ => [(j37 0), (j37 1), Value.int .i64 x38, Value.bool false, (j37 3), (j37 4), (j37 5), (j37 6), (j37 7), (j37 8), (j37 9), (j37 10), (j37 11), (j37 12), (j37 13)].getD i_ undef) W35 _ L34 h HS36 (by kernel_rfl)

set_option maxRecDepth 100000 in
set_option maxHeartbeats 4000000 in
theorem spykeep3_column.calls (k : Nat)   {t w : World} {f : FM} {H : List Seg} (HS : St t w f (H)) (r1 : Bool) (h : spykeep3_column k = some r1) :
    Calls Try.prog 22 #[] w (fun e w' => ∃ (g : FM), e = .returned (Value.bool r1) ∧ FM.le f g ∧ St t w' g (H)) := by
  unfold spykeep3_column at h
  refine enter Try.func22 rfl (tm := #[undef, undef, undef, undef, undef, undef, undef, undef, undef, undef, undef, undef, undef, undef, undef, undef, undef, undef, undef, undef, undef, undef, undef, undef, undef, undef, undef, undef, undef, undef, undef, undef, undef, undef, undef, undef, undef, undef, undef, undef, undef, undef, undef, undef]) (by kernel_rfl) ?_
  intro B hret hnor hnp
  refine wp_seq_k (fun K1 hK2 => ?_)
  refine wp_region_lit ?_
  refine seqS1 (a' := ⟨#[.bool false, undef, undef, undef, undef, undef, undef, undef, undef, undef, undef, undef, undef, undef, undef, undef, undef, undef, undef, undef, undef, undef, undef, undef, undef, undef, undef, undef, undef, undef, undef, undef, undef, undef, undef, undef, undef, undef, undef, undef, undef, undef, undef, undef], []⟩) (by kernel_rfl) ?_
  refine wpList_nil ?_
  refine hK2 _ _ ?_
  refine wp_seq_k (fun K3 hK4 => ?_)
  refine wp_region_lit ?_
  refine seqK rfl (does_lit (e := (tInt .i64)) (E := 3) (vs := #[(0, Value.int .i64 1), (1, Value.int .i64 2)]) (cs := #[.int .i64 1, .int .i64 2]) (xs := ([1, 2] : List Int)) rfl Try.underlying40 (by kernel_rfl) (by kernel_rfl) ⟨[.int .i64 1], _, rfl, rfl, ⟨[.int .i64 2], _, rfl, rfl, rfl⟩⟩ rfl HS ?_ (by decide))
  intro b5 W6 s7 HS8 _ HO9
  refine seqK rfl (does_lit (e := (tInt .i64)) (E := 25) (vs := #[(0, Value.int .i64 0), (1, Value.int .i64 3)]) (cs := #[.int .i64 0, .int .i64 3]) (xs := ([0, 3] : List Int)) rfl Try.underlying44 (by kernel_rfl) (by kernel_rfl) ⟨[.int .i64 0], _, rfl, rfl, ⟨[.int .i64 3], _, rfl, rfl, rfl⟩⟩ rfl HS8 ?_ (by decide))
  intro b11 W12 s13 HS14 _ HO15
  refine seqK rfl (does_lit (e := (tInt .i64)) (E := 3) (vs := #[(0, Value.int .i64 4096), (1, Value.int .i64 0)]) (cs := #[.int .i64 4096, .int .i64 0]) (xs := ([4096, 0] : List Int)) rfl Try.underlying40 (by kernel_rfl) (by kernel_rfl) ⟨[.int .i64 4096], _, rfl, rfl, ⟨[.int .i64 0], _, rfl, rfl, rfl⟩⟩ rfl HS14 ?_ (by decide))
  intro b17 W18 s19 HS20 _ HO21
  refine seqL1 (by kernel_rfl) ?_
  refine seqK rfl (does_alloc (z := Value.agg #[.int .i64 0, .int .i64 0, .slice none 0 0, .slice none 0 0, .slice none 0 0, .int .i64 0, .int .i64 0, .int .i64 0]) (cs := #[.int .i64 0, .int .i64 0, .slice none 0 0, .slice none 0 0, .slice none 0 0, .int .i64 0, .int .i64 0, .int .i64 0]) rfl (by kernel_rfl) rfl HS20 ?_)
  intro b23 W24 HS25
  refine seqK rfl (does_store (n := 8) (vs := [.int .i64 1, .int .i64 2, .slice (some ⟨b5, 0, none⟩) ([1, 2] : List Int).length 2, .slice (some ⟨b11, 0, none⟩) ([0, 3] : List Int).length 2, .slice (some ⟨b17, 0, none⟩) ([4096, 0] : List Int).length 2, .int .i64 10, .int .i64 1, .int .i64 0]) (cs' := #[.int .i64 1, .int .i64 2, .slice (some ⟨b5, 0, none⟩) ([1, 2] : List Int).length 2, .slice (some ⟨b11, 0, none⟩) ([0, 3] : List Int).length 2, .slice (some ⟨b17, 0, none⟩) ([4096, 0] : List Int).length 2, .int .i64 10, .int .i64 1, .int .i64 0]) rfl (by kernel_rfl) (by kernel_rfl : _ = Value.pointer (some ⟨b23, 0, none⟩)) (by kernel_rfl : _ = Value.agg #[.int .i64 1, .int .i64 2, .slice (some ⟨b5, 0, none⟩) ([1, 2] : List Int).length 2, .slice (some ⟨b11, 0, none⟩) ([0, 3] : List Int).length 2, .slice (some ⟨b17, 0, none⟩) ([4096, 0] : List Int).length 2, .int .i64 10, .int .i64 1, .int .i64 0]) rfl rfl (by intro u_ hu_; simp only [List.mem_cons, List.not_mem_nil, or_false] at hu_; rcases hu_ with rfl | rfl | rfl | rfl | rfl | rfl | rfl | rfl <;> rfl) HS25 (Nat.le_of_ble_eq_true rfl) (by kernel_rfl) ?_)
  intro W27 HS28
  refine wpList_nil ?_
  refine hK4 _ _ ?_
  refine wp_seq_k (fun K29 hK30 => ?_)
  refine wp_region_lit ?_
  refine seqK rfl (does_run (run_loadN (n := 8) rfl Try.underlying46 rfl (by kernel_rfl) (by kernel_rfl : _ = Value.pointer (some ⟨b23, 0, none⟩)) (cs := [.int .i64 1, .int .i64 2, .slice (some ⟨b5, 0, none⟩) ([1, 2] : List Int).length 2, .slice (some ⟨b11, 0, none⟩) ([0, 3] : List Int).length 2, .slice (some ⟨b17, 0, none⟩) ([4096, 0] : List Int).length 2, .int .i64 10, .int .i64 1, .int .i64 0]) rfl (HS28.cells 0 8 _ rfl)) ?_)
  refine seqK rfl (does_lit (e := (tInt .i64)) (E := 22) (vs := #[(0, Value.int .i64 13), (1, Value.int .i64 0)]) (cs := #[.int .i64 13, .int .i64 0]) (xs := ([13, 0] : List Int)) rfl Try.underlying48 (by kernel_rfl) (by kernel_rfl) ⟨[.int .i64 13], _, rfl, rfl, ⟨[.int .i64 0], _, rfl, rfl, rfl⟩⟩ rfl HS28 ?_ (by decide))
  intro b31 W32 s33 HS34 _ HO35
  have HS37 := HS34.u4
  obtain ⟨f38, L39, HS40, HR41, th42⟩ := HO9.lend HS37
  have HS43 := HS40.u3
  obtain ⟨f44, L45, HS46, HR47, th48⟩ := (HO15.mono L39).lend HS43
  have HS49 := HS46.u2
  obtain ⟨f50, L51, HS52, HR53, th54⟩ := (HO21.mono (L39.trans L45)).lend HS49
  obtain ⟨f55, L56, HS57, HR58, th59⟩ := (HO35.mono (L39.trans (L45.trans L51))).lend HS52
  have hq_ := bind_some h; clear h; obtain ⟨⟨vt60, vt61, vt62⟩, hc63, h⟩ := hq_
  refine seqK rfl (does_call (f := 21) (args := #[.agg #[.int .i64 1, .int .i64 2, .slice (some ⟨b5, 0, none⟩) ([1, 2] : List Int).length 2, .slice (some ⟨b11, 0, none⟩) ([0, 3] : List Int).length 2, .slice (some ⟨b17, 0, none⟩) ([4096, 0] : List Int).length 2, .int .i64 10, .int .i64 1, .int .i64 0], .slice (some ⟨b31, 0, none⟩) ([13, 0] : List Int).length 2]) (by kernel_rfl) (sensor_Bleed.calls k (some ⟨b5, 0, none⟩) 2 (some ⟨b11, 0, none⟩) 2 (some ⟨b17, 0, none⟩) 2 (some ⟨b31, 0, none⟩) 2 (⟨1, 2, ([1, 2] : List Int), ([0, 3] : List Int), ([4096, 0] : List Int), 10, 1, 0⟩ : S_Sensor) ([13, 0] : List Int) HS57 (HR41.mono (L45.trans (L51.trans L56))) (HR47.mono (L51.trans L56)) (HR53.mono L56) HR58 vt60 vt61 vt62 hc63) ?_)
  rintro _ W66 ⟨f64, A68, c69, s70, rfl, L65, HS67, HO71⟩
  refine ⟨_, rfl, ?_⟩
  obtain ⟨f73, L74, HS75⟩ := th59 L65 HS67
  obtain ⟨f76, L77, HS78⟩ := th54 L74 HS75
  obtain ⟨f79, L80, HS81⟩ := th48 L77 HS78
  obtain ⟨f82, L83, HS84⟩ := th42 L80 HS81
  replace HO71 := HO71.flat (g := f82) (fun _ _ _ _ h_ => h_)
  refine seqS7 (a' := ⟨#[.bool false, .pointer (some ⟨b23, 0, none⟩), .slice A68 vt60.length c69, .int .i64 vt61, .int .i64 vt62, undef, undef, .slice (some ⟨b5, 0, none⟩) ([1, 2] : List Int).length 2, .slice (some ⟨b11, 0, none⟩) ([0, 3] : List Int).length 2, .slice (some ⟨b17, 0, none⟩) ([4096, 0] : List Int).length 2, .agg #[.int .i64 1, .int .i64 2, .slice (some ⟨b5, 0, none⟩) ([1, 2] : List Int).length 2, .slice (some ⟨b11, 0, none⟩) ([0, 3] : List Int).length 2, .slice (some ⟨b17, 0, none⟩) ([4096, 0] : List Int).length 2, .int .i64 10, .int .i64 1, .int .i64 0], .tuple #[.slice A68 vt60.length c69, .int .i64 vt61, .int .i64 vt62], .agg #[.int .i64 1, .int .i64 2, .slice (some ⟨b5, 0, none⟩) ([1, 2] : List Int).length 2, .slice (some ⟨b11, 0, none⟩) ([0, 3] : List Int).length 2, .slice (some ⟨b17, 0, none⟩) ([4096, 0] : List Int).length 2, .int .i64 10, .int .i64 1, .int .i64 0], .slice (some ⟨b31, 0, none⟩) ([13, 0] : List Int).length 2, .tuple #[.slice A68 vt60.length c69, .int .i64 vt61, .int .i64 vt62], .slice A68 vt60.length c69, .int .i64 vt61, .int .i64 vt62, undef, undef, undef, undef, undef, undef, undef, undef, undef, undef, undef, undef, undef, undef, undef, undef, undef, undef, undef, undef, undef, undef, undef, undef, undef, undef], []⟩) (by kernel_rfl) ?_
  refine wpList_nil ?_
  refine hK30 _ _ ?_
  refine wp_seq_k (fun K85 hK86 => ?_)
  refine wp_region_lit ?_
  refine seqK rfl (does_run (run_loadN (n := 8) rfl Try.underlying46 rfl (by kernel_rfl) (by kernel_rfl : _ = Value.pointer (some ⟨b23, 0, none⟩)) (cs := [.int .i64 1, .int .i64 2, .slice (some ⟨b5, 0, none⟩) ([1, 2] : List Int).length 2, .slice (some ⟨b11, 0, none⟩) ([0, 3] : List Int).length 2, .slice (some ⟨b17, 0, none⟩) ([4096, 0] : List Int).length 2, .int .i64 10, .int .i64 1, .int .i64 0]) rfl (HS84.u5.cells 0 8 _ rfl)) ?_)
  refine seqK rfl (does_lit (e := (tInt .i64)) (E := 25) (vs := #[(0, Value.int .i64 9), (1, Value.int .i64 9)]) (cs := #[.int .i64 9, .int .i64 9]) (xs := ([9, 9] : List Int)) rfl Try.underlying44 (by kernel_rfl) (by kernel_rfl) ⟨[.int .i64 9], _, rfl, rfl, ⟨[.int .i64 9], _, rfl, rfl, rfl⟩⟩ rfl HS84 ?_ (by decide))
  intro b87 W88 s89 HS90 _ HO91
  have HS93 := HS90.u1
  obtain ⟨f94, L95, HS96, HR97, th98⟩ := (HO9.mono L83).lend HS93
  have HS99 := HS96.u1
  obtain ⟨f100, L101, HS102, HR103, th104⟩ := (HO15.mono (L83.trans L95)).lend HS99
  have HS105 := HS102.u1
  obtain ⟨f106, L107, HS108, HR109, th110⟩ := (HO21.mono (L83.trans (L95.trans L101))).lend HS105
  obtain ⟨f111, L112, HS113, HR114, th115⟩ := (HO91.mono (L95.trans (L101.trans L107))).lend HS108
  have hq_ := bind_some h; clear h; obtain ⟨⟨vt116, vt117⟩, hc118, h⟩ := hq_
  refine seqK rfl (does_call (f := 26) (args := #[.agg #[.int .i64 1, .int .i64 2, .slice (some ⟨b5, 0, none⟩) ([1, 2] : List Int).length 2, .slice (some ⟨b11, 0, none⟩) ([0, 3] : List Int).length 2, .slice (some ⟨b17, 0, none⟩) ([4096, 0] : List Int).length 2, .int .i64 10, .int .i64 1, .int .i64 0], .slice (some ⟨b87, 0, none⟩) ([9, 9] : List Int).length 2, .int .i64 2]) (by kernel_rfl) (sensor_Expect.calls k (some ⟨b5, 0, none⟩) 2 (some ⟨b11, 0, none⟩) 2 (some ⟨b17, 0, none⟩) 2 (some ⟨b87, 0, none⟩) 2 (⟨1, 2, ([1, 2] : List Int), ([0, 3] : List Int), ([4096, 0] : List Int), 10, 1, 0⟩ : S_Sensor) ([9, 9] : List Int) 2 HS113 (HR97.mono (L101.trans (L107.trans L112))) (HR103.mono (L107.trans L112)) (HR109.mono L112) HR114 vt116 vt117 hc118) ?_)
  rintro _ W121 ⟨f119, A123, c124, s125, rfl, L120, HS122, HO126⟩
  refine ⟨_, rfl, ?_⟩
  obtain ⟨f128, L129, HS130⟩ := th115 L120 HS122
  obtain ⟨f131, L132, HS133⟩ := th110 L129 HS130
  obtain ⟨f134, L135, HS136⟩ := th104 L132 HS133
  obtain ⟨f137, L138, HS139⟩ := th98 L135 HS136
  replace HO126 := HO126.flat (g := f137) (fun _ _ _ _ h_ => h_)
  refine seqS5 (a' := ⟨#[.bool false, .pointer (some ⟨b23, 0, none⟩), .slice A68 vt60.length c69, .int .i64 vt61, .int .i64 vt62, .slice A123 vt116.length c124, .int .i64 vt117, .slice (some ⟨b5, 0, none⟩) ([1, 2] : List Int).length 2, .slice (some ⟨b11, 0, none⟩) ([0, 3] : List Int).length 2, .slice (some ⟨b17, 0, none⟩) ([4096, 0] : List Int).length 2, .agg #[.int .i64 1, .int .i64 2, .slice (some ⟨b5, 0, none⟩) ([1, 2] : List Int).length 2, .slice (some ⟨b11, 0, none⟩) ([0, 3] : List Int).length 2, .slice (some ⟨b17, 0, none⟩) ([4096, 0] : List Int).length 2, .int .i64 10, .int .i64 1, .int .i64 0], .tuple #[.slice A68 vt60.length c69, .int .i64 vt61, .int .i64 vt62], .agg #[.int .i64 1, .int .i64 2, .slice (some ⟨b5, 0, none⟩) ([1, 2] : List Int).length 2, .slice (some ⟨b11, 0, none⟩) ([0, 3] : List Int).length 2, .slice (some ⟨b17, 0, none⟩) ([4096, 0] : List Int).length 2, .int .i64 10, .int .i64 1, .int .i64 0], .slice (some ⟨b31, 0, none⟩) ([13, 0] : List Int).length 2, .tuple #[.slice A68 vt60.length c69, .int .i64 vt61, .int .i64 vt62], .slice A68 vt60.length c69, .int .i64 vt61, .int .i64 vt62, .tuple #[.slice A123 vt116.length c124, .int .i64 vt117], .agg #[.int .i64 1, .int .i64 2, .slice (some ⟨b5, 0, none⟩) ([1, 2] : List Int).length 2, .slice (some ⟨b11, 0, none⟩) ([0, 3] : List Int).length 2, .slice (some ⟨b17, 0, none⟩) ([4096, 0] : List Int).length 2, .int .i64 10, .int .i64 1, .int .i64 0], .slice (some ⟨b87, 0, none⟩) ([9, 9] : List Int).length 2, .tuple #[.slice A123 vt116.length c124, .int .i64 vt117], .slice A123 vt116.length c124, .int .i64 vt117, undef, undef, undef, undef, undef, undef, undef, undef, undef, undef, undef, undef, undef, undef, undef, undef, undef, undef, undef, undef], []⟩) (by kernel_rfl) ?_
  refine wpList_nil ?_
  refine hK86 _ _ ?_
  refine wp_seq_k (fun K140 hK141 => ?_)
  refine wp_region_lit ?_
  refine seqS3 (a' := ⟨#[.bool false, .pointer (some ⟨b23, 0, none⟩), .slice A68 vt60.length c69, .int .i64 vt61, .int .i64 vt62, .slice A123 vt116.length c124, .int .i64 vt117, .slice (some ⟨b5, 0, none⟩) ([1, 2] : List Int).length 2, .slice (some ⟨b11, 0, none⟩) ([0, 3] : List Int).length 2, .slice (some ⟨b17, 0, none⟩) ([4096, 0] : List Int).length 2, .agg #[.int .i64 1, .int .i64 2, .slice (some ⟨b5, 0, none⟩) ([1, 2] : List Int).length 2, .slice (some ⟨b11, 0, none⟩) ([0, 3] : List Int).length 2, .slice (some ⟨b17, 0, none⟩) ([4096, 0] : List Int).length 2, .int .i64 10, .int .i64 1, .int .i64 0], .tuple #[.slice A68 vt60.length c69, .int .i64 vt61, .int .i64 vt62], .agg #[.int .i64 1, .int .i64 2, .slice (some ⟨b5, 0, none⟩) ([1, 2] : List Int).length 2, .slice (some ⟨b11, 0, none⟩) ([0, 3] : List Int).length 2, .slice (some ⟨b17, 0, none⟩) ([4096, 0] : List Int).length 2, .int .i64 10, .int .i64 1, .int .i64 0], .slice (some ⟨b31, 0, none⟩) ([13, 0] : List Int).length 2, .tuple #[.slice A68 vt60.length c69, .int .i64 vt61, .int .i64 vt62], .slice A68 vt60.length c69, .int .i64 vt61, .int .i64 vt62, .tuple #[.slice A123 vt116.length c124, .int .i64 vt117], .agg #[.int .i64 1, .int .i64 2, .slice (some ⟨b5, 0, none⟩) ([1, 2] : List Int).length 2, .slice (some ⟨b11, 0, none⟩) ([0, 3] : List Int).length 2, .slice (some ⟨b17, 0, none⟩) ([4096, 0] : List Int).length 2, .int .i64 10, .int .i64 1, .int .i64 0], .slice (some ⟨b87, 0, none⟩) ([9, 9] : List Int).length 2, .tuple #[.slice A123 vt116.length c124, .int .i64 vt117], .slice A123 vt116.length c124, .int .i64 vt117, .int .i64 vt62, .bool (vt62 == 0), .bool (vt62 == 0), undef, undef, undef, undef, undef, undef, undef, undef, undef, undef, undef, undef, undef, undef, undef, undef, undef], []⟩) (by kernel_rfl) ?_
  have hq_ := ite_some h; clear h; rcases hq_ with ⟨c142, h⟩ | ⟨c142, h⟩
  · have c142 : vt62 = 0 := c142
    refine seqRwI 25 (x := (vt62 == 0)) (v := true) (by kernel_rfl) (beq_iff_eq.mpr c142) ?_
    refine seqRwI 26 (x := (vt62 == 0)) (v := true) (by kernel_rfl) (beq_iff_eq.mpr c142) ?_
    refine seqS4 (a' := ⟨#[.bool false, .pointer (some ⟨b23, 0, none⟩), .slice A68 vt60.length c69, .int .i64 vt61, .int .i64 vt62, .slice A123 vt116.length c124, .int .i64 vt117, .slice (some ⟨b5, 0, none⟩) ([1, 2] : List Int).length 2, .slice (some ⟨b11, 0, none⟩) ([0, 3] : List Int).length 2, .slice (some ⟨b17, 0, none⟩) ([4096, 0] : List Int).length 2, .agg #[.int .i64 1, .int .i64 2, .slice (some ⟨b5, 0, none⟩) ([1, 2] : List Int).length 2, .slice (some ⟨b11, 0, none⟩) ([0, 3] : List Int).length 2, .slice (some ⟨b17, 0, none⟩) ([4096, 0] : List Int).length 2, .int .i64 10, .int .i64 1, .int .i64 0], .tuple #[.slice A68 vt60.length c69, .int .i64 vt61, .int .i64 vt62], .agg #[.int .i64 1, .int .i64 2, .slice (some ⟨b5, 0, none⟩) ([1, 2] : List Int).length 2, .slice (some ⟨b11, 0, none⟩) ([0, 3] : List Int).length 2, .slice (some ⟨b17, 0, none⟩) ([4096, 0] : List Int).length 2, .int .i64 10, .int .i64 1, .int .i64 0], .slice (some ⟨b31, 0, none⟩) ([13, 0] : List Int).length 2, .tuple #[.slice A68 vt60.length c69, .int .i64 vt61, .int .i64 vt62], .slice A68 vt60.length c69, .int .i64 vt61, .int .i64 vt62, .tuple #[.slice A123 vt116.length c124, .int .i64 vt117], .agg #[.int .i64 1, .int .i64 2, .slice (some ⟨b5, 0, none⟩) ([1, 2] : List Int).length 2, .slice (some ⟨b11, 0, none⟩) ([0, 3] : List Int).length 2, .slice (some ⟨b17, 0, none⟩) ([4096, 0] : List Int).length 2, .int .i64 10, .int .i64 1, .int .i64 0], .slice (some ⟨b87, 0, none⟩) ([9, 9] : List Int).length 2, .tuple #[.slice A123 vt116.length c124, .int .i64 vt117], .slice A123 vt116.length c124, .int .i64 vt117, .int .i64 vt62, .bool true, .bool true, .int .i64 vt117, .bool (vt117 == 0), .bool (vt117 == 0), .bool (vt117 == 0), undef, undef, undef, undef, undef, undef, undef, undef, undef, undef, undef, undef, undef], []⟩) (by kernel_rfl) ?_
    have hq_ := ite_some h; clear h; rcases hq_ with ⟨c143, h⟩ | ⟨c143, h⟩
    · have c143 : vt117 = 0 := c143
      refine seqRwI 28 (x := (vt117 == 0)) (v := true) (by kernel_rfl) (beq_iff_eq.mpr c143) ?_
      refine seqRwI 29 (x := (vt117 == 0)) (v := true) (by kernel_rfl) (beq_iff_eq.mpr c143) ?_
      refine seqRwI 30 (x := (vt117 == 0)) (v := true) (by kernel_rfl) (beq_iff_eq.mpr c143) ?_
      refine seqS4 (a' := ⟨#[.bool false, .pointer (some ⟨b23, 0, none⟩), .slice A68 vt60.length c69, .int .i64 vt61, .int .i64 vt62, .slice A123 vt116.length c124, .int .i64 vt117, .slice (some ⟨b5, 0, none⟩) ([1, 2] : List Int).length 2, .slice (some ⟨b11, 0, none⟩) ([0, 3] : List Int).length 2, .slice (some ⟨b17, 0, none⟩) ([4096, 0] : List Int).length 2, .agg #[.int .i64 1, .int .i64 2, .slice (some ⟨b5, 0, none⟩) ([1, 2] : List Int).length 2, .slice (some ⟨b11, 0, none⟩) ([0, 3] : List Int).length 2, .slice (some ⟨b17, 0, none⟩) ([4096, 0] : List Int).length 2, .int .i64 10, .int .i64 1, .int .i64 0], .tuple #[.slice A68 vt60.length c69, .int .i64 vt61, .int .i64 vt62], .agg #[.int .i64 1, .int .i64 2, .slice (some ⟨b5, 0, none⟩) ([1, 2] : List Int).length 2, .slice (some ⟨b11, 0, none⟩) ([0, 3] : List Int).length 2, .slice (some ⟨b17, 0, none⟩) ([4096, 0] : List Int).length 2, .int .i64 10, .int .i64 1, .int .i64 0], .slice (some ⟨b31, 0, none⟩) ([13, 0] : List Int).length 2, .tuple #[.slice A68 vt60.length c69, .int .i64 vt61, .int .i64 vt62], .slice A68 vt60.length c69, .int .i64 vt61, .int .i64 vt62, .tuple #[.slice A123 vt116.length c124, .int .i64 vt117], .agg #[.int .i64 1, .int .i64 2, .slice (some ⟨b5, 0, none⟩) ([1, 2] : List Int).length 2, .slice (some ⟨b11, 0, none⟩) ([0, 3] : List Int).length 2, .slice (some ⟨b17, 0, none⟩) ([4096, 0] : List Int).length 2, .int .i64 10, .int .i64 1, .int .i64 0], .slice (some ⟨b87, 0, none⟩) ([9, 9] : List Int).length 2, .tuple #[.slice A123 vt116.length c124, .int .i64 vt117], .slice A123 vt116.length c124, .int .i64 vt117, .int .i64 vt62, .bool true, .bool true, .int .i64 vt117, .bool true, .bool true, .bool true, .int .i64 vt61, .bool (vt61 == 1), .bool (vt61 == 1), .bool (vt61 == 1), undef, undef, undef, undef, undef, undef, undef, undef, undef], []⟩) (by kernel_rfl) ?_
      have hq_ := ite_some h; clear h; rcases hq_ with ⟨c144, h⟩ | ⟨c144, h⟩
      · have c144 : vt61 = 1 := c144
        refine seqRwI 32 (x := (vt61 == 1)) (v := true) (by kernel_rfl) (beq_iff_eq.mpr c144) ?_
        refine seqRwI 33 (x := (vt61 == 1)) (v := true) (by kernel_rfl) (beq_iff_eq.mpr c144) ?_
        refine seqRwI 34 (x := (vt61 == 1)) (v := true) (by kernel_rfl) (beq_iff_eq.mpr c144) ?_
        refine seqL1 (by kernel_rfl) ?_
        refine seqG (by kernel_rfl) (does_lit (e := (tInt .i64)) (E := 22) (vs := #[(0, Value.int .i64 10), (1, Value.int .i64 2)]) (cs := #[.int .i64 10, .int .i64 2]) (xs := ([10, 2] : List Int)) rfl Try.underlying48 (by kernel_rfl) (by kernel_rfl) ⟨[.int .i64 10], _, rfl, rfl, ⟨[.int .i64 2], _, rfl, rfl, rfl⟩⟩ rfl HS139 ?_ (by decide))
        intro b145 W146 s147 HS148 _ HO149
        have HS151 := HS148.u7
        obtain ⟨f152, L153, HS154, HR155, th156⟩ := (HO71.mono L138).lend HS151
        obtain ⟨f157, L158, HS159, HR160, th161⟩ := (HO149.mono L153).lend HS154
        have hq_ := bind_some h; clear h; obtain ⟨vt162, hc163, h⟩ := hq_
        refine seqG (by kernel_rfl) (does_call (f := 51) (args := #[.slice A68 vt60.length c69, .slice (some ⟨b145, 0, none⟩) ([10, 2] : List Int).length 2]) (by kernel_rfl) (slices_Equal_Quanta.calls k A68 c69 (some ⟨b145, 0, none⟩) 2 vt60 ([10, 2] : List Int) HS159 (HR155.mono L158) HR160 vt162 hc163) ?_)
        rintro _ W166 ⟨f164, rfl, L165, HS167⟩
        refine ⟨_, rfl, ?_⟩
        obtain ⟨f168, L169, HS170⟩ := th161 L165 HS167
        obtain ⟨f171, L172, HS173⟩ := th156 L169 HS170
        refine seqS2 (a' := ⟨#[.bool false, .pointer (some ⟨b23, 0, none⟩), .slice A68 vt60.length c69, .int .i64 vt61, .int .i64 vt62, .slice A123 vt116.length c124, .int .i64 vt117, .slice (some ⟨b5, 0, none⟩) ([1, 2] : List Int).length 2, .slice (some ⟨b11, 0, none⟩) ([0, 3] : List Int).length 2, .slice (some ⟨b17, 0, none⟩) ([4096, 0] : List Int).length 2, .agg #[.int .i64 1, .int .i64 2, .slice (some ⟨b5, 0, none⟩) ([1, 2] : List Int).length 2, .slice (some ⟨b11, 0, none⟩) ([0, 3] : List Int).length 2, .slice (some ⟨b17, 0, none⟩) ([4096, 0] : List Int).length 2, .int .i64 10, .int .i64 1, .int .i64 0], .tuple #[.slice A68 vt60.length c69, .int .i64 vt61, .int .i64 vt62], .agg #[.int .i64 1, .int .i64 2, .slice (some ⟨b5, 0, none⟩) ([1, 2] : List Int).length 2, .slice (some ⟨b11, 0, none⟩) ([0, 3] : List Int).length 2, .slice (some ⟨b17, 0, none⟩) ([4096, 0] : List Int).length 2, .int .i64 10, .int .i64 1, .int .i64 0], .slice (some ⟨b31, 0, none⟩) ([13, 0] : List Int).length 2, .tuple #[.slice A68 vt60.length c69, .int .i64 vt61, .int .i64 vt62], .slice A68 vt60.length c69, .int .i64 vt61, .int .i64 vt62, .tuple #[.slice A123 vt116.length c124, .int .i64 vt117], .agg #[.int .i64 1, .int .i64 2, .slice (some ⟨b5, 0, none⟩) ([1, 2] : List Int).length 2, .slice (some ⟨b11, 0, none⟩) ([0, 3] : List Int).length 2, .slice (some ⟨b17, 0, none⟩) ([4096, 0] : List Int).length 2, .int .i64 10, .int .i64 1, .int .i64 0], .slice (some ⟨b87, 0, none⟩) ([9, 9] : List Int).length 2, .tuple #[.slice A123 vt116.length c124, .int .i64 vt117], .slice A123 vt116.length c124, .int .i64 vt117, .int .i64 vt62, .bool true, .bool true, .int .i64 vt117, .bool true, .bool true, .bool true, .int .i64 vt61, .bool true, .bool true, .bool true, .slice A68 vt60.length c69, .slice (some ⟨b145, 0, none⟩) ([10, 2] : List Int).length 2, .bool vt162, .bool vt162, .bool vt162, undef, undef, undef, undef], []⟩) (by kernel_rfl) ?_
        have hq_ := ite_some h; clear h; rcases hq_ with ⟨c174, h⟩ | ⟨c174, h⟩
        · have c174 : vt162 = true := c174
          refine seqRwI 37 (x := vt162) (v := true) (by kernel_rfl) c174 ?_
          refine seqRwI 38 (x := vt162) (v := true) (by kernel_rfl) c174 ?_
          refine seqRwI 39 (x := vt162) (v := true) (by kernel_rfl) c174 ?_
          refine seqL1 (by kernel_rfl) ?_
          refine seqG (by kernel_rfl) (does_lit (e := (tInt .i64)) (E := 25) (vs := #[(0, Value.int .i64 9), (1, Value.int .i64 6)]) (cs := #[.int .i64 9, .int .i64 6]) (xs := ([9, 6] : List Int)) rfl Try.underlying44 (by kernel_rfl) (by kernel_rfl) ⟨[.int .i64 9], _, rfl, rfl, ⟨[.int .i64 6], _, rfl, rfl, rfl⟩⟩ rfl HS173 ?_ (by decide))
          intro b175 W176 s177 HS178 _ HO179
          have HS181 := HS178.u7
          obtain ⟨f182, L183, HS184, HR185, th186⟩ := (HO126.mono L172).lend HS181
          obtain ⟨f187, L188, HS189, HR190, th191⟩ := (HO179.mono L183).lend HS184
          have hq_ := bind_some h; clear h; obtain ⟨vt192, hc193, h⟩ := hq_
          refine seqG (by kernel_rfl) (does_call (f := 52) (args := #[.slice A123 vt116.length c124, .slice (some ⟨b175, 0, none⟩) ([9, 6] : List Int).length 2]) (by kernel_rfl) (slices_Equal_Light.calls k A123 c124 (some ⟨b175, 0, none⟩) 2 vt116 ([9, 6] : List Int) HS189 (HR185.mono L188) HR190 vt192 hc193) ?_)
          rintro _ W196 ⟨f194, rfl, L195, HS197⟩
          refine ⟨_, rfl, ?_⟩
          obtain ⟨f198, L199, HS200⟩ := th191 L195 HS197
          obtain ⟨f201, L202, HS203⟩ := th186 L199 HS200
          refine seqS2 (a' := ⟨#[.bool vt192, .pointer (some ⟨b23, 0, none⟩), .slice A68 vt60.length c69, .int .i64 vt61, .int .i64 vt62, .slice A123 vt116.length c124, .int .i64 vt117, .slice (some ⟨b5, 0, none⟩) ([1, 2] : List Int).length 2, .slice (some ⟨b11, 0, none⟩) ([0, 3] : List Int).length 2, .slice (some ⟨b17, 0, none⟩) ([4096, 0] : List Int).length 2, .agg #[.int .i64 1, .int .i64 2, .slice (some ⟨b5, 0, none⟩) ([1, 2] : List Int).length 2, .slice (some ⟨b11, 0, none⟩) ([0, 3] : List Int).length 2, .slice (some ⟨b17, 0, none⟩) ([4096, 0] : List Int).length 2, .int .i64 10, .int .i64 1, .int .i64 0], .tuple #[.slice A68 vt60.length c69, .int .i64 vt61, .int .i64 vt62], .agg #[.int .i64 1, .int .i64 2, .slice (some ⟨b5, 0, none⟩) ([1, 2] : List Int).length 2, .slice (some ⟨b11, 0, none⟩) ([0, 3] : List Int).length 2, .slice (some ⟨b17, 0, none⟩) ([4096, 0] : List Int).length 2, .int .i64 10, .int .i64 1, .int .i64 0], .slice (some ⟨b31, 0, none⟩) ([13, 0] : List Int).length 2, .tuple #[.slice A68 vt60.length c69, .int .i64 vt61, .int .i64 vt62], .slice A68 vt60.length c69, .int .i64 vt61, .int .i64 vt62, .tuple #[.slice A123 vt116.length c124, .int .i64 vt117], .agg #[.int .i64 1, .int .i64 2, .slice (some ⟨b5, 0, none⟩) ([1, 2] : List Int).length 2, .slice (some ⟨b11, 0, none⟩) ([0, 3] : List Int).length 2, .slice (some ⟨b17, 0, none⟩) ([4096, 0] : List Int).length 2, .int .i64 10, .int .i64 1, .int .i64 0], .slice (some ⟨b87, 0, none⟩) ([9, 9] : List Int).length 2, .tuple #[.slice A123 vt116.length c124, .int .i64 vt117], .slice A123 vt116.length c124, .int .i64 vt117, .int .i64 vt62, .bool true, .bool true, .int .i64 vt117, .bool true, .bool true, .bool true, .int .i64 vt61, .bool true, .bool true, .bool true, .slice A68 vt60.length c69, .slice (some ⟨b145, 0, none⟩) ([10, 2] : List Int).length 2, .bool true, .bool true, .bool true, .slice A123 vt116.length c124, .slice (some ⟨b175, 0, none⟩) ([9, 6] : List Int).length 2, .bool vt192, .bool vt192], []⟩) (by kernel_rfl) ?_
          refine wpList_nil ?_
          refine hK141 _ _ ?_
          refine wp_ret ?_
          refine hret _ _ ?_
          refine ends_still (v := Value.bool vt192) (by kernel_rfl) (by kernel_rfl) ?_
          have HS204 := HS203.drop
          have HS205 := HS204.drop
          have HS206 := HS205.drop
          have HS207 := HS206.drop
          have HS208 := HS207.drop
          have HS209 := HS208.drop
          have HS210 := HS209.drop
          have HS211 := HS210.drop
          have HS212 := HS211.drop
          have HS213 := HS212.drop
          injection h with h
          subst h
          exact ⟨f201, rfl, (L83.trans (L138.trans (L172.trans L202))), HS213⟩
        · have c174 : ¬ (vt162 = true) := c174
          refine seqRwI 37 (x := vt162) (v := false) (by kernel_rfl) (Bool.eq_false_iff.mpr c174) ?_
          refine seqRwI 38 (x := vt162) (v := false) (by kernel_rfl) (Bool.eq_false_iff.mpr c174) ?_
          refine seqRwI 39 (x := vt162) (v := false) (by kernel_rfl) (Bool.eq_false_iff.mpr c174) ?_
          refine seqS5 (a' := ⟨#[.bool false, .pointer (some ⟨b23, 0, none⟩), .slice A68 vt60.length c69, .int .i64 vt61, .int .i64 vt62, .slice A123 vt116.length c124, .int .i64 vt117, .slice (some ⟨b5, 0, none⟩) ([1, 2] : List Int).length 2, .slice (some ⟨b11, 0, none⟩) ([0, 3] : List Int).length 2, .slice (some ⟨b17, 0, none⟩) ([4096, 0] : List Int).length 2, .agg #[.int .i64 1, .int .i64 2, .slice (some ⟨b5, 0, none⟩) ([1, 2] : List Int).length 2, .slice (some ⟨b11, 0, none⟩) ([0, 3] : List Int).length 2, .slice (some ⟨b17, 0, none⟩) ([4096, 0] : List Int).length 2, .int .i64 10, .int .i64 1, .int .i64 0], .tuple #[.slice A68 vt60.length c69, .int .i64 vt61, .int .i64 vt62], .agg #[.int .i64 1, .int .i64 2, .slice (some ⟨b5, 0, none⟩) ([1, 2] : List Int).length 2, .slice (some ⟨b11, 0, none⟩) ([0, 3] : List Int).length 2, .slice (some ⟨b17, 0, none⟩) ([4096, 0] : List Int).length 2, .int .i64 10, .int .i64 1, .int .i64 0], .slice (some ⟨b31, 0, none⟩) ([13, 0] : List Int).length 2, .tuple #[.slice A68 vt60.length c69, .int .i64 vt61, .int .i64 vt62], .slice A68 vt60.length c69, .int .i64 vt61, .int .i64 vt62, .tuple #[.slice A123 vt116.length c124, .int .i64 vt117], .agg #[.int .i64 1, .int .i64 2, .slice (some ⟨b5, 0, none⟩) ([1, 2] : List Int).length 2, .slice (some ⟨b11, 0, none⟩) ([0, 3] : List Int).length 2, .slice (some ⟨b17, 0, none⟩) ([4096, 0] : List Int).length 2, .int .i64 10, .int .i64 1, .int .i64 0], .slice (some ⟨b87, 0, none⟩) ([9, 9] : List Int).length 2, .tuple #[.slice A123 vt116.length c124, .int .i64 vt117], .slice A123 vt116.length c124, .int .i64 vt117, .int .i64 vt62, .bool true, .bool true, .int .i64 vt117, .bool true, .bool true, .bool true, .int .i64 vt61, .bool true, .bool true, .bool true, .slice A68 vt60.length c69, .slice (some ⟨b145, 0, none⟩) ([10, 2] : List Int).length 2, .bool false, .bool false, .bool false, undef, undef, undef, .bool false], []⟩) (by kernel_rfl) ?_
          refine wpList_nil ?_
          refine hK141 _ _ ?_
          refine wp_ret ?_
          refine hret _ _ ?_
          refine ends_still (v := Value.bool false) (by kernel_rfl) (by kernel_rfl) ?_
          have HS214 := HS173.drop
          have HS215 := HS214.drop
          have HS216 := HS215.drop
          have HS217 := HS216.drop
          have HS218 := HS217.drop
          have HS219 := HS218.drop
          have HS220 := HS219.drop
          have HS221 := HS220.drop
          have HS222 := HS221.drop
          injection h with h
          subst h
          exact ⟨f171, rfl, (L83.trans (L138.trans L172)), HS222⟩
      · have c144 : ¬ (vt61 = 1) := c144
        refine seqRwI 32 (x := (vt61 == 1)) (v := false) (by kernel_rfl) (beq_eq_false_iff_ne.mpr c144) ?_
        refine seqRwI 33 (x := (vt61 == 1)) (v := false) (by kernel_rfl) (beq_eq_false_iff_ne.mpr c144) ?_
        refine seqRwI 34 (x := (vt61 == 1)) (v := false) (by kernel_rfl) (beq_eq_false_iff_ne.mpr c144) ?_
        refine seqS10 (a' := ⟨#[.bool false, .pointer (some ⟨b23, 0, none⟩), .slice A68 vt60.length c69, .int .i64 vt61, .int .i64 vt62, .slice A123 vt116.length c124, .int .i64 vt117, .slice (some ⟨b5, 0, none⟩) ([1, 2] : List Int).length 2, .slice (some ⟨b11, 0, none⟩) ([0, 3] : List Int).length 2, .slice (some ⟨b17, 0, none⟩) ([4096, 0] : List Int).length 2, .agg #[.int .i64 1, .int .i64 2, .slice (some ⟨b5, 0, none⟩) ([1, 2] : List Int).length 2, .slice (some ⟨b11, 0, none⟩) ([0, 3] : List Int).length 2, .slice (some ⟨b17, 0, none⟩) ([4096, 0] : List Int).length 2, .int .i64 10, .int .i64 1, .int .i64 0], .tuple #[.slice A68 vt60.length c69, .int .i64 vt61, .int .i64 vt62], .agg #[.int .i64 1, .int .i64 2, .slice (some ⟨b5, 0, none⟩) ([1, 2] : List Int).length 2, .slice (some ⟨b11, 0, none⟩) ([0, 3] : List Int).length 2, .slice (some ⟨b17, 0, none⟩) ([4096, 0] : List Int).length 2, .int .i64 10, .int .i64 1, .int .i64 0], .slice (some ⟨b31, 0, none⟩) ([13, 0] : List Int).length 2, .tuple #[.slice A68 vt60.length c69, .int .i64 vt61, .int .i64 vt62], .slice A68 vt60.length c69, .int .i64 vt61, .int .i64 vt62, .tuple #[.slice A123 vt116.length c124, .int .i64 vt117], .agg #[.int .i64 1, .int .i64 2, .slice (some ⟨b5, 0, none⟩) ([1, 2] : List Int).length 2, .slice (some ⟨b11, 0, none⟩) ([0, 3] : List Int).length 2, .slice (some ⟨b17, 0, none⟩) ([4096, 0] : List Int).length 2, .int .i64 10, .int .i64 1, .int .i64 0], .slice (some ⟨b87, 0, none⟩) ([9, 9] : List Int).length 2, .tuple #[.slice A123 vt116.length c124, .int .i64 vt117], .slice A123 vt116.length c124, .int .i64 vt117, .int .i64 vt62, .bool true, .bool true, .int .i64 vt117, .bool true, .bool true, .bool true, .int .i64 vt61, .bool false, .bool false, .bool false, undef, undef, undef, .bool false, .bool false, undef, undef, undef, .bool false], []⟩) (by kernel_rfl) ?_
        refine wpList_nil ?_
        refine hK141 _ _ ?_
        refine wp_ret ?_
        refine hret _ _ ?_
        refine ends_still (v := Value.bool false) (by kernel_rfl) (by kernel_rfl) ?_
        have HS223 := HS139.drop
        have HS224 := HS223.drop
        have HS225 := HS224.drop
        have HS226 := HS225.drop
        have HS227 := HS226.drop
        have HS228 := HS227.drop
        have HS229 := HS228.drop
        have HS230 := HS229.drop
        injection h with h
        subst h
        exact ⟨f137, rfl, (L83.trans L138), HS230⟩
    · have c143 : ¬ (vt117 = 0) := c143
      refine seqRwI 28 (x := (vt117 == 0)) (v := false) (by kernel_rfl) (beq_eq_false_iff_ne.mpr c143) ?_
      refine seqRwI 29 (x := (vt117 == 0)) (v := false) (by kernel_rfl) (beq_eq_false_iff_ne.mpr c143) ?_
      refine seqRwI 30 (x := (vt117 == 0)) (v := false) (by kernel_rfl) (beq_eq_false_iff_ne.mpr c143) ?_
      refine seqS14 (a' := ⟨#[.bool false, .pointer (some ⟨b23, 0, none⟩), .slice A68 vt60.length c69, .int .i64 vt61, .int .i64 vt62, .slice A123 vt116.length c124, .int .i64 vt117, .slice (some ⟨b5, 0, none⟩) ([1, 2] : List Int).length 2, .slice (some ⟨b11, 0, none⟩) ([0, 3] : List Int).length 2, .slice (some ⟨b17, 0, none⟩) ([4096, 0] : List Int).length 2, .agg #[.int .i64 1, .int .i64 2, .slice (some ⟨b5, 0, none⟩) ([1, 2] : List Int).length 2, .slice (some ⟨b11, 0, none⟩) ([0, 3] : List Int).length 2, .slice (some ⟨b17, 0, none⟩) ([4096, 0] : List Int).length 2, .int .i64 10, .int .i64 1, .int .i64 0], .tuple #[.slice A68 vt60.length c69, .int .i64 vt61, .int .i64 vt62], .agg #[.int .i64 1, .int .i64 2, .slice (some ⟨b5, 0, none⟩) ([1, 2] : List Int).length 2, .slice (some ⟨b11, 0, none⟩) ([0, 3] : List Int).length 2, .slice (some ⟨b17, 0, none⟩) ([4096, 0] : List Int).length 2, .int .i64 10, .int .i64 1, .int .i64 0], .slice (some ⟨b31, 0, none⟩) ([13, 0] : List Int).length 2, .tuple #[.slice A68 vt60.length c69, .int .i64 vt61, .int .i64 vt62], .slice A68 vt60.length c69, .int .i64 vt61, .int .i64 vt62, .tuple #[.slice A123 vt116.length c124, .int .i64 vt117], .agg #[.int .i64 1, .int .i64 2, .slice (some ⟨b5, 0, none⟩) ([1, 2] : List Int).length 2, .slice (some ⟨b11, 0, none⟩) ([0, 3] : List Int).length 2, .slice (some ⟨b17, 0, none⟩) ([4096, 0] : List Int).length 2, .int .i64 10, .int .i64 1, .int .i64 0], .slice (some ⟨b87, 0, none⟩) ([9, 9] : List Int).length 2, .tuple #[.slice A123 vt116.length c124, .int .i64 vt117], .slice A123 vt116.length c124, .int .i64 vt117, .int .i64 vt62, .bool true, .bool true, .int .i64 vt117, .bool false, .bool false, .bool false, undef, undef, .bool false, .bool false, undef, undef, undef, .bool false, .bool false, undef, undef, undef, .bool false], []⟩) (by kernel_rfl) ?_
      refine wpList_nil ?_
      refine hK141 _ _ ?_
      refine wp_ret ?_
      refine hret _ _ ?_
      refine ends_still (v := Value.bool false) (by kernel_rfl) (by kernel_rfl) ?_
      have HS231 := HS139.drop
      have HS232 := HS231.drop
      have HS233 := HS232.drop
      have HS234 := HS233.drop
      have HS235 := HS234.drop
      have HS236 := HS235.drop
      have HS237 := HS236.drop
      have HS238 := HS237.drop
      injection h with h
      subst h
      exact ⟨f137, rfl, (L83.trans L138), HS238⟩
  · have c142 : ¬ (vt62 = 0) := c142
    refine seqRwI 25 (x := (vt62 == 0)) (v := false) (by kernel_rfl) (beq_eq_false_iff_ne.mpr c142) ?_
    refine seqRwI 26 (x := (vt62 == 0)) (v := false) (by kernel_rfl) (beq_eq_false_iff_ne.mpr c142) ?_
    refine seqS18 (a' := ⟨#[.bool false, .pointer (some ⟨b23, 0, none⟩), .slice A68 vt60.length c69, .int .i64 vt61, .int .i64 vt62, .slice A123 vt116.length c124, .int .i64 vt117, .slice (some ⟨b5, 0, none⟩) ([1, 2] : List Int).length 2, .slice (some ⟨b11, 0, none⟩) ([0, 3] : List Int).length 2, .slice (some ⟨b17, 0, none⟩) ([4096, 0] : List Int).length 2, .agg #[.int .i64 1, .int .i64 2, .slice (some ⟨b5, 0, none⟩) ([1, 2] : List Int).length 2, .slice (some ⟨b11, 0, none⟩) ([0, 3] : List Int).length 2, .slice (some ⟨b17, 0, none⟩) ([4096, 0] : List Int).length 2, .int .i64 10, .int .i64 1, .int .i64 0], .tuple #[.slice A68 vt60.length c69, .int .i64 vt61, .int .i64 vt62], .agg #[.int .i64 1, .int .i64 2, .slice (some ⟨b5, 0, none⟩) ([1, 2] : List Int).length 2, .slice (some ⟨b11, 0, none⟩) ([0, 3] : List Int).length 2, .slice (some ⟨b17, 0, none⟩) ([4096, 0] : List Int).length 2, .int .i64 10, .int .i64 1, .int .i64 0], .slice (some ⟨b31, 0, none⟩) ([13, 0] : List Int).length 2, .tuple #[.slice A68 vt60.length c69, .int .i64 vt61, .int .i64 vt62], .slice A68 vt60.length c69, .int .i64 vt61, .int .i64 vt62, .tuple #[.slice A123 vt116.length c124, .int .i64 vt117], .agg #[.int .i64 1, .int .i64 2, .slice (some ⟨b5, 0, none⟩) ([1, 2] : List Int).length 2, .slice (some ⟨b11, 0, none⟩) ([0, 3] : List Int).length 2, .slice (some ⟨b17, 0, none⟩) ([4096, 0] : List Int).length 2, .int .i64 10, .int .i64 1, .int .i64 0], .slice (some ⟨b87, 0, none⟩) ([9, 9] : List Int).length 2, .tuple #[.slice A123 vt116.length c124, .int .i64 vt117], .slice A123 vt116.length c124, .int .i64 vt117, .int .i64 vt62, .bool false, .bool false, undef, undef, .bool false, .bool false, undef, undef, .bool false, .bool false, undef, undef, undef, .bool false, .bool false, undef, undef, undef, .bool false], []⟩) (by kernel_rfl) ?_
    refine wpList_nil ?_
    refine hK141 _ _ ?_
    refine wp_ret ?_
    refine hret _ _ ?_
    refine ends_still (v := Value.bool false) (by kernel_rfl) (by kernel_rfl) ?_
    have HS239 := HS139.drop
    have HS240 := HS239.drop
    have HS241 := HS240.drop
    have HS242 := HS241.drop
    have HS243 := HS242.drop
    have HS244 := HS243.drop
    have HS245 := HS244.drop
    have HS246 := HS245.drop
    injection h with h
    subst h
    exact ⟨f137, rfl, (L83.trans L138), HS246⟩

set_option maxRecDepth 100000 in
set_option maxHeartbeats 4000000 in
theorem spykeep3_SensorBleedsKeep_1.calls (k : Nat) (b1 : Nat) (A6 : Option Addr) (c7 : Nat) (b3 : Nat) (A10 : Option Addr) (c11 : Nat) (A13 : Option Addr) (c14 : Nat) (A16 : Option Addr) (c17 : Nat) (v5 : List Int) (v9 : S_Sensor) (vk19 : Int) {t w : World} {f : FM} {H : List Seg} (HS : St t w f ([(b1, .cells #[.slice A6 v5.length c7] 48 (0, 0))] :: [(b3, .cells #[.int .i64 v9.W, .int .i64 v9.H, .slice A10 v9.Bias.length c11, .slice A13 v9.Dark.length c14, .slice A16 v9.Flat.length c17, .int .i64 v9.Full, .int .i64 v9.Gain, .int .i64 v9.Noise] 46 (0, 0))] :: H)) (HR8 : SlR (tInt .i64) f A6 c7 v5) (HR12 : SlR (tInt .i64) f A10 c11 v9.Bias) (HR15 : SlR (tInt .i64) f A13 c14 v9.Dark) (HR18 : SlR (tInt .i64) f A16 c17 v9.Flat) (r1 : Bool) (h : spykeep3_SensorBleedsKeep_1 k v5 v9 vk19 = some r1) :
    Calls Try.prog 23 #[.int .i64 vk19, .pointer (some ⟨b1, 0, none⟩), .pointer (some ⟨b3, 0, none⟩)] w (fun e w' => ∃ (g : FM), e = .returned (Value.bool r1) ∧ FM.le f g ∧ St t w' g ([(b1, .cells #[.slice A6 v5.length c7] 48 (0, 0))] :: [(b3, .cells #[.int .i64 v9.W, .int .i64 v9.H, .slice A10 v9.Bias.length c11, .slice A13 v9.Dark.length c14, .slice A16 v9.Flat.length c17, .int .i64 v9.Full, .int .i64 v9.Gain, .int .i64 v9.Noise] 46 (0, 0))] :: H)) := by
  unfold spykeep3_SensorBleedsKeep_1 at h
  refine enter Try.func23 rfl (tm := #[.int .i64 vk19, .pointer (some ⟨b1, 0, none⟩), .pointer (some ⟨b3, 0, none⟩), undef, undef, undef, undef, undef, undef, undef, undef, undef, undef, undef, undef, undef, undef, undef, undef, undef, undef, undef]) (by kernel_rfl) ?_
  intro B hret hnor hnp
  refine wp_seq_k (fun K20 hK21 => ?_)
  refine wp_region_lit ?_
  refine seqS1 (a' := ⟨#[.int .i64 vk19, .pointer (some ⟨b1, 0, none⟩), .pointer (some ⟨b3, 0, none⟩), undef, .bool false, undef, undef, undef, undef, undef, undef, undef, undef, undef, undef, undef, undef, undef, undef, undef, undef, undef], []⟩) (by kernel_rfl) ?_
  refine wpList_nil ?_
  refine hK21 _ _ ?_
  refine wp_seq_k (fun K22 hK23 => ?_)
  refine heldG (S := Sg t f ([(b1, .cells #[.slice A6 v5.length c7] 48 (0, 0))] :: [(b3, .cells #[.int .i64 v9.W, .int .i64 v9.H, .slice A10 v9.Bias.length c11, .slice A13 v9.Dark.length c14, .slice A16 v9.Flat.length c17, .int .i64 v9.Full, .int .i64 v9.Gain, .int .i64 v9.Noise] 46 (0, 0))] :: H) []) (n := 18) (by kernel_rfl) rfl HS ?_
  intro W24 HS25
  refine takeG [0, 1, 2] (n := 18) (fuel := 15) (l' := #[true, true, true, false, false, false, false, false, false, false, false, false, false, false, false, false, false, false]) (a' := ⟨#[.int .i64 vk19, .pointer (some ⟨b1, 0, none⟩), .pointer (some ⟨b3, 0, none⟩), undef, .bool false, .int .i64 vk19, .bool (decide (vk19 ≥ 0)), .bool (decide (vk19 ≥ 0)), undef, undef, undef, undef, undef, undef, undef, undef, undef, undef, undef, undef, undef, undef], []⟩) rfl (by kernel_rfl) (by kernel_rfl) (by kernel_rfl) hnp (Sg.g0 (Sx.of [] (FM.le.refl _) HS25)) ?_
  have hq_ := ite_some h; clear h; rcases hq_ with ⟨c26, h⟩ | ⟨c26, h⟩
  · have c26 : vk19 ≥ 0 := c26
    refine gateRwI 6 (x := (decide (vk19 ≥ 0))) (v := true) (by kernel_rfl) (decide_eq_true c26) ?_
    refine gateRwI 7 (x := (decide (vk19 ≥ 0))) (v := true) (by kernel_rfl) (decide_eq_true c26) ?_
    refine takeG [3] (n := 15) (fuel := 14) (l' := #[true, true, true, true, false, false, false, false, false, false, false, false, false, false, false, false, false, false]) (a' := ⟨#[.int .i64 vk19, .pointer (some ⟨b1, 0, none⟩), .pointer (some ⟨b3, 0, none⟩), undef, .bool false, .int .i64 vk19, .bool true, .bool true, .int .i64 vk19, undef, undef, undef, undef, undef, undef, undef, undef, undef, undef, undef, undef, undef], []⟩) rfl (by kernel_rfl) (by kernel_rfl) (by kernel_rfl) hnp (Sg.g0 (Sx.of [] (FM.le.refl _) HS25)) ?_
    refine takeGQ 4 [] rfl (by kernel_rfl) (by kernel_rfl) (by kernel_rfl) (by kernel_rfl) (by kernel_rfl) (by kernel_rfl) hnp (Sg.g0 (Sx.of [] (FM.le.refl _) HS25)) (fun w_ hw_ => by obtain ⟨g_, hl_, hS_⟩ := hw_.st; exact run_load rfl Try.underlying48 rfl (by kernel_rfl : _ = Value.pointer (some ⟨b1, 0, none⟩)) (hS_.cell 0)) ?_
    refine takeG [5, 6, 7, 8] (n := 13) (fuel := 9) (l' := #[true, true, true, true, true, true, true, true, true, false, false, false, false, false, false, false, false, false]) (a' := ⟨#[.int .i64 vk19, .pointer (some ⟨b1, 0, none⟩), .pointer (some ⟨b3, 0, none⟩), undef, .bool false, .int .i64 vk19, .bool true, .bool true, .int .i64 vk19, .slice A6 v5.length c7, .int .i64 (v5.length : Int), .bool (decide (vk19 < (v5.length : Int))), .bool (decide (vk19 < (v5.length : Int))), .bool (decide (vk19 < (v5.length : Int))), undef, undef, undef, undef, undef, undef, undef, undef], []⟩) rfl (by kernel_rfl) (by kernel_rfl) (by kernel_rfl) hnp (Sg.g0 (Sx.of [] (FM.le.refl _) HS25)) ?_
    have hq_ := ite_some h; clear h; rcases hq_ with ⟨c27, h⟩ | ⟨c27, h⟩
    · have c27 : vk19 < (v5.length : Int) := c27
      refine gateRwI 11 (x := (decide (vk19 < (v5.length : Int)))) (v := true) (by kernel_rfl) (decide_eq_true c27) ?_
      refine gateRwI 12 (x := (decide (vk19 < (v5.length : Int)))) (v := true) (by kernel_rfl) (decide_eq_true c27) ?_
      refine gateRwI 13 (x := (decide (vk19 < (v5.length : Int)))) (v := true) (by kernel_rfl) (decide_eq_true c27) ?_
      refine takeGQ 9 [] rfl (by kernel_rfl) (by kernel_rfl) (by kernel_rfl) (by kernel_rfl) (by kernel_rfl) (by kernel_rfl) hnp (Sg.g0 (Sx.of [] (FM.le.refl _) HS25)) (fun w_ hw_ => by obtain ⟨g_, hl_, hS_⟩ := hw_.st; exact run_load rfl Try.underlying48 rfl (by kernel_rfl : _ = Value.pointer (some ⟨b1, 0, none⟩)) (hS_.cell 0)) ?_
      have hq_ := guard_some h; clear h; obtain ⟨c28, h⟩ := hq_
      have c28 : 0 ≤ vk19 := c28
      obtain ⟨b32, of33, cs29, rfl, hr30, hc31⟩ := HR8.at (i := vk19) c28 c27
      obtain rfl := hr30
      refine takeG [10] (n := 8) (fuel := 7) (l' := #[true, true, true, true, true, true, true, true, true, true, true, false, false, false, false, false, false, false]) (a' := ⟨#[.int .i64 vk19, .pointer (some ⟨b1, 0, none⟩), .pointer (some ⟨b3, 0, none⟩), undef, .bool false, .int .i64 vk19, .bool true, .bool true, .int .i64 vk19, .slice (some ⟨b32, of33, none⟩) v5.length c7, .int .i64 (v5.length : Int), .bool true, .bool true, .bool true, .slice (some ⟨b32, of33, none⟩) v5.length c7, .int .i64 vk19, undef, undef, undef, undef, undef, undef], []⟩) rfl (by kernel_rfl) (by kernel_rfl) (by kernel_rfl) hnp (Sg.g0 (Sx.of [] (FM.le.refl _) HS25)) ?_
      refine takeGQ 11 [] rfl (by kernel_rfl) (by kernel_rfl) (by kernel_rfl) (by kernel_rfl) (by kernel_rfl) (by kernel_rfl) hnp (Sg.g0 (Sx.of [] (FM.le.refl _) HS25)) (fun w_ hw_ => by obtain ⟨g_, hl_, hS_⟩ := hw_.st; exact run_index (sz := 1) rfl Try.underlying48 (by kernel_rfl) (by kernel_rfl : _ = Value.slice (some ⟨b32, of33, none⟩) v5.length c7) (by kernel_rfl : _ = Value.int .i64 vk19) c28 c27 w_) ?_
      refine takeGQ 12 [] rfl (by kernel_rfl) (by kernel_rfl) (by kernel_rfl) (by kernel_rfl) (by kernel_rfl) (by kernel_rfl) hnp (Sg.g0 (Sx.of [] (FM.le.refl _) HS25)) (fun w_ hw_ => by obtain ⟨g_, hl_, hS_⟩ := hw_.st; exact run_load rfl Try.underlying22 rfl (by kernel_rfl : _ = Value.pointer (some ⟨b32, of33 + (vk19 : Int).toNat * 1, none⟩)) ((hc31 hl_ hS_) 0 (by decide))) ?_
      refine takeG [13] (n := 5) (fuel := 4) (l' := #[true, true, true, true, true, true, true, true, true, true, true, true, true, true, false, false, false, false]) (a' := ⟨#[.int .i64 vk19, .pointer (some ⟨b1, 0, none⟩), .pointer (some ⟨b3, 0, none⟩), undef, .bool false, .int .i64 vk19, .bool true, .bool true, .int .i64 vk19, .slice (some ⟨b32, of33, none⟩) v5.length c7, .int .i64 (v5.length : Int), .bool true, .bool true, .bool true, .slice (some ⟨b32, of33, none⟩) v5.length c7, .int .i64 vk19, .pointer (some ⟨b32, of33 + (vk19 : Int).toNat * 1, none⟩), .int .i64 (rd v5 vk19), .pointer (some ⟨b3, 5, none⟩), undef, undef, undef], []⟩) rfl (by kernel_rfl) (by kernel_rfl) (by kernel_rfl) hnp (Sg.g0 (Sx.of [] (FM.le.refl _) HS25)) ?_
      refine takeGQ 14 [] rfl (by kernel_rfl) (by kernel_rfl) (by kernel_rfl) (by kernel_rfl) (by kernel_rfl) (by kernel_rfl) hnp (Sg.g0 (Sx.of [] (FM.le.refl _) HS25)) (fun w_ hw_ => by obtain ⟨g_, hl_, hS_⟩ := hw_.st; exact run_load rfl Try.underlying22 rfl (by kernel_rfl : _ = Value.pointer (some ⟨b3, 5, none⟩)) (hS_.u1.cell 5)) ?_
      refine takeG [15, 16, 17] (n := 3) (fuel := 0) (l' := #[true, true, true, true, true, true, true, true, true, true, true, true, true, true, true, true, true, true]) (a' := ⟨#[.int .i64 vk19, .pointer (some ⟨b1, 0, none⟩), .pointer (some ⟨b3, 0, none⟩), undef, .bool ((rd v5 vk19) == v9.Full), .int .i64 vk19, .bool true, .bool true, .int .i64 vk19, .slice (some ⟨b32, of33, none⟩) v5.length c7, .int .i64 (v5.length : Int), .bool true, .bool true, .bool true, .slice (some ⟨b32, of33, none⟩) v5.length c7, .int .i64 vk19, .pointer (some ⟨b32, of33 + (vk19 : Int).toNat * 1, none⟩), .int .i64 (rd v5 vk19), .pointer (some ⟨b3, 5, none⟩), .int .i64 v9.Full, .bool ((rd v5 vk19) == v9.Full), .bool ((rd v5 vk19) == v9.Full)], []⟩) rfl (by kernel_rfl) (by kernel_rfl) (by kernel_rfl) hnp (Sg.g0 (Sx.of [] (FM.le.refl _) HS25)) ?_
      refine doneG (by kernel_rfl) ?_ _
      refine hK23 _ _ ?_
      refine wp_ret ?_
      refine hret _ _ ?_
      refine ends_still (v := Value.bool ((rd v5 vk19) == v9.Full)) (by kernel_rfl) (by kernel_rfl) ?_
      injection h with h
      subst h
      exact ⟨f, rfl, FM.le.refl _, HS25⟩
    · have c27 : ¬ (vk19 < (v5.length : Int)) := c27
      refine gateRwI 11 (x := (decide (vk19 < (v5.length : Int)))) (v := false) (by kernel_rfl) (decide_eq_false c27) ?_
      refine gateRwI 12 (x := (decide (vk19 < (v5.length : Int)))) (v := false) (by kernel_rfl) (decide_eq_false c27) ?_
      refine gateRwI 13 (x := (decide (vk19 < (v5.length : Int)))) (v := false) (by kernel_rfl) (decide_eq_false c27) ?_
      refine takeG [9, 10, 11, 12, 13, 14, 15, 16, 17] (n := 9) (fuel := 0) (l' := #[true, true, true, true, true, true, true, true, true, true, true, true, true, true, true, true, true, true]) (a' := ⟨#[.int .i64 vk19, .pointer (some ⟨b1, 0, none⟩), .pointer (some ⟨b3, 0, none⟩), undef, .bool false, .int .i64 vk19, .bool true, .bool true, .int .i64 vk19, .slice A6 v5.length c7, .int .i64 (v5.length : Int), .bool false, .bool false, .bool false, undef, undef, undef, undef, undef, undef, undef, .bool false], []⟩) rfl (by kernel_rfl) (by kernel_rfl) (by kernel_rfl) hnp (Sg.g0 (Sx.of [] (FM.le.refl _) HS25)) ?_
      refine doneG (by kernel_rfl) ?_ _
      refine hK23 _ _ ?_
      refine wp_ret ?_
      refine hret _ _ ?_
      refine ends_still (v := Value.bool false) (by kernel_rfl) (by kernel_rfl) ?_
      injection h with h
      subst h
      exact ⟨f, rfl, FM.le.refl _, HS25⟩
  · have c26 : ¬ (vk19 ≥ 0) := c26
    refine gateRwI 6 (x := (decide (vk19 ≥ 0))) (v := false) (by kernel_rfl) (decide_eq_false c26) ?_
    refine gateRwI 7 (x := (decide (vk19 ≥ 0))) (v := false) (by kernel_rfl) (decide_eq_false c26) ?_
    refine takeG [3, 4, 5, 6, 7, 8, 9, 10, 11, 12, 13, 14, 15, 16, 17] (n := 15) (fuel := 0) (l' := #[true, true, true, true, true, true, true, true, true, true, true, true, true, true, true, true, true, true]) (a' := ⟨#[.int .i64 vk19, .pointer (some ⟨b1, 0, none⟩), .pointer (some ⟨b3, 0, none⟩), undef, .bool false, .int .i64 vk19, .bool false, .bool false, undef, undef, undef, undef, .bool false, .bool false, undef, undef, undef, undef, undef, undef, undef, .bool false], []⟩) rfl (by kernel_rfl) (by kernel_rfl) (by kernel_rfl) hnp (Sg.g0 (Sx.of [] (FM.le.refl _) HS25)) ?_
    refine doneG (by kernel_rfl) ?_ _
    refine hK23 _ _ ?_
    refine wp_ret ?_
    refine hret _ _ ?_
    refine ends_still (v := Value.bool false) (by kernel_rfl) (by kernel_rfl) ?_
    injection h with h
    subst h
    exact ⟨f, rfl, FM.le.refl _, HS25⟩

end Go.Sp.X5
