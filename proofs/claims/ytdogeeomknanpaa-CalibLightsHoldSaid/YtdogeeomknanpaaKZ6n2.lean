import Derived.Test.YtdogeeomknanpaaProg
import Derived.Test.YtdogeeomknanpaaSpTwo
import Derived.Test.YtdogeeomknanpaaFZ6
import Derived.Test.YtdogeeomknanpaaKZ6n0
import Derived.Test.YtdogeeomknanpaaKZ6n1
namespace Go.Sp.Z6
open Go Go.Sp Go.Proofs
set_option linter.unusedVariables false
attribute [local irreducible] wpList AnyL Code.wp Calls Does
set_option maxRecDepth 100000 in
set_option maxHeartbeats 4000000 in
theorem num_Wide_Div.calls (k : Nat)  (vw1 : S_Wide) (d2 : Int) {t w : World} {f : FM} {H : List Seg} (HS : St t w f (H)) (r1 : Int) (r2 : Int) (h : num_Wide_Div k vw1 d2 = some (r1, r2)) :
    Calls Try.prog 91 #[.agg #[.int .i64 vw1.Hi, .int .u64 vw1.Lo], .int .i64 d2] w (fun e w' => ∃ (g : FM), e = .returned (Value.tuple #[.int .i64 r1, .int .i64 r2]) ∧ FM.le f g ∧ St t w' g (H)) := by
  unfold num_Wide_Div at h
  refine enter Try.func91 rfl (tm := #[.agg #[.int .i64 vw1.Hi, .int .u64 vw1.Lo], .int .i64 d2, undef, undef, undef, undef, undef, undef, undef, undef, undef, undef, undef, undef, undef, undef, undef, undef, undef, undef, undef, undef, undef, undef, undef, undef, undef, undef, undef, undef, undef, undef, undef, undef, undef, undef, undef, undef, undef, undef, undef, undef, undef, undef, undef, undef, undef, undef, undef, undef, undef, undef, undef, undef, undef, undef, undef, undef, undef, undef, undef]) (by kernel_rfl) ?_
  intro B hret hnor hnp
  refine wp_seq_k (fun K3 hK4 => ?_)
  refine wp_region_lit ?_
  refine seqK rfl (does_box (cs := #[.int .i64 vw1.Hi, .int .u64 vw1.Lo]) rfl (by kernel_rfl : _ = Value.agg #[.int .i64 vw1.Hi, .int .u64 vw1.Lo]) rfl HS ?_)
  intro b5 W6 HS7
  refine seqS2 (a' := ⟨#[.agg #[.int .i64 vw1.Hi, .int .u64 vw1.Lo], .int .i64 d2, .pointer (some ⟨b5, 0, none⟩), undef, .int .i64 0, .int .i64 0, undef, undef, undef, undef, undef, undef, undef, undef, undef, undef, undef, undef, undef, undef, undef, undef, undef, undef, undef, undef, undef, undef, undef, undef, undef, undef, undef, undef, undef, undef, undef, undef, undef, undef, undef, undef, undef, undef, undef, undef, undef, undef, undef, undef, undef, undef, undef, undef, undef, undef, undef, undef, undef, undef, undef], []⟩) (by kernel_rfl) ?_
  refine wpList_nil ?_
  refine hK4 _ _ ?_
  refine wp_seq_k (fun K9 hK10 => ?_)
  refine wp_seq_k (fun K11 hK12 => ?_)
  refine wp_region_lit ?_
  refine seqS2 (a' := ⟨#[.agg #[.int .i64 vw1.Hi, .int .u64 vw1.Lo], .int .i64 d2, .pointer (some ⟨b5, 0, none⟩), undef, .int .i64 0, .int .i64 0, undef, undef, undef, undef, .int .i64 d2, .bool (decide (d2 < 1)), undef, undef, undef, undef, undef, undef, undef, undef, undef, undef, undef, undef, undef, undef, undef, undef, undef, undef, undef, undef, undef, undef, undef, undef, undef, undef, undef, undef, undef, undef, undef, undef, undef, undef, undef, undef, undef, undef, undef, undef, undef, undef, undef, undef, undef, undef, undef, undef, undef], []⟩) (by kernel_rfl) ?_
  refine wpList_nil ?_
  refine hK12 _ _ ?_
  have hq_ := ite_some h; clear h; rcases hq_ with ⟨c14, h⟩ | ⟨c14, h⟩
  · have c14 : d2 < 1 := c14
    refine wpRwI 11 (x := (decide (d2 < 1))) (v := true) (by kernel_rfl) (decide_eq_true c14) ?_
    refine condT (by kernel_rfl) ?_
    refine wp_seq_k (fun K15 hK16 => ?_)
    refine wp_region_lit ?_
    refine seqS2 (a' := ⟨#[.agg #[.int .i64 vw1.Hi, .int .u64 vw1.Lo], .int .i64 d2, .pointer (some ⟨b5, 0, none⟩), undef, .int .i64 0, .int .i64 1, undef, undef, undef, undef, .int .i64 d2, .bool true, undef, undef, undef, undef, undef, undef, undef, undef, undef, undef, undef, undef, undef, undef, undef, undef, undef, undef, undef, undef, undef, undef, undef, undef, undef, undef, undef, undef, undef, undef, undef, undef, undef, undef, undef, undef, undef, undef, undef, undef, undef, undef, undef, undef, undef, undef, undef, undef, undef], []⟩) (by kernel_rfl) ?_
    refine wpList_nil ?_
    refine hK16 _ _ ?_
    refine wp_ret ?_
    refine hret _ _ ?_
    refine ends_still (v := Value.tuple #[.int .i64 0, .int .i64 1]) (by kernel_rfl) (by kernel_rfl) ?_
    have HS129 := HS7.drop
    injection h with h
    injection h with h0_ h
    subst h0_ h
    exact ⟨f, rfl, FM.le.refl _, HS129⟩
  · have c14 : ¬ (d2 < 1) := c14
    refine wpRwI 11 (x := (decide (d2 < 1))) (v := false) (by kernel_rfl) (decide_eq_false c14) ?_
    refine condF (by kernel_rfl) ?_
    refine wp_skip ?_
    refine hK10 _ _ ?_
    refine wp_seq_k (fun K17 hK18 => ?_)
    refine wp_region_lit ?_
    refine seqK rfl (does_run (run_loadN (n := 2) rfl Try.underlying126 rfl (by kernel_rfl) (by kernel_rfl : _ = Value.pointer (some ⟨b5, 0, none⟩)) (cs := [.int .i64 vw1.Hi, .int .u64 vw1.Lo]) rfl (HS7.cells 0 2 _ rfl)) ?_)
    refine seqK rfl (does_alloc (z := Value.agg #[.int .i64 0, .int .u64 0]) (cs := #[.int .i64 0, .int .u64 0]) rfl (by kernel_rfl) rfl HS7 ?_)
    intro b19 W20 HS21
    refine seqK rfl (does_store (n := 2) (vs := [.int .i64 vw1.Hi, .int .u64 vw1.Lo]) (cs' := #[.int .i64 vw1.Hi, .int .u64 vw1.Lo]) rfl (by kernel_rfl) (by kernel_rfl : _ = Value.pointer (some ⟨b19, 0, none⟩)) (by kernel_rfl : _ = Value.agg #[.int .i64 vw1.Hi, .int .u64 vw1.Lo]) rfl rfl (by intro u_ hu_; simp only [List.mem_cons, List.not_mem_nil, or_false] at hu_; rcases hu_ with rfl | rfl <;> rfl) HS21 (Nat.le_of_ble_eq_true rfl) (by kernel_rfl) ?_)
    intro W23 HS24
    refine wpList_nil ?_
    refine hK18 _ _ ?_
    refine wp_seq_k (fun K25 hK26 => ?_)
    refine wp_seq_k (fun K27 hK28 => ?_)
    refine wp_region_lit ?_
    refine seqL1 (by kernel_rfl) ?_
    refine seqK rfl (does_run (run_load rfl Try.underlying2 rfl (by kernel_rfl : _ = Value.pointer (some ⟨b5, 0, none⟩)) (HS24.u1.cell 0)) ?_)
    refine seqS1 (a' := ⟨#[.agg #[.int .i64 vw1.Hi, .int .u64 vw1.Lo], .int .i64 d2, .pointer (some ⟨b5, 0, none⟩), undef, .int .i64 0, .int .i64 0, .pointer (some ⟨b19, 0, none⟩), undef, undef, undef, .int .i64 d2, .bool false, .agg #[.int .i64 vw1.Hi, .int .u64 vw1.Lo], .pointer (some ⟨b5, 0, none⟩), .int .i64 vw1.Hi, .bool (decide (vw1.Hi < 0)), undef, undef, undef, undef, undef, undef, undef, undef, undef, undef, undef, undef, undef, undef, undef, undef, undef, undef, undef, undef, undef, undef, undef, undef, undef, undef, undef, undef, undef, undef, undef, undef, undef, undef, undef, undef, undef, undef, undef, undef, undef, undef, undef, undef, undef], []⟩) (by kernel_rfl) ?_
    refine wpList_nil ?_
    refine hK28 _ _ ?_
    have hq_ := bind_some h; clear h; obtain ⟨v29, hv46, h⟩ := hq_
    have J47 : ∀ (f39 : FM) (x44 : Int) (x45 : Int) (j43 : Nat → Value) (W41 : World) (a_ : Act), FM.le f f39 → some ((x44, x45)) = some v29 → St t W41 f39 ([(b19, .cells #[.int .i64 x44, .int .u64 x45] 126 (0, 0))] :: [(b5, .cells #[.int .i64 vw1.Hi, .int .u64 vw1.Lo] 126 (0, 0))] :: H) → a_ = ⟨#[.agg #[.int .i64 vw1.Hi, .int .u64 vw1.Lo], .int .i64 d2, .pointer (some ⟨b5, 0, none⟩), undef, .int .i64 0, .int .i64 0, .pointer (some ⟨b19, 0, none⟩), undef, undef, undef, .int .i64 d2, .bool false, .agg #[.int .i64 vw1.Hi, .int .u64 vw1.Lo], .pointer (some ⟨b5, 0, none⟩), .int .i64 vw1.Hi, (j43 0), (j43 1), (j43 2), undef, undef, undef, undef, undef, undef, undef, undef, undef, undef, undef, undef, undef, undef, undef, undef, undef, undef, undef, undef, undef, undef, undef, undef, undef, undef, undef, undef, undef, undef, undef, undef, undef, undef, undef, undef, undef, undef, undef, undef, undef, undef, undef], []⟩ → K25 a_ W41 := by
      intro f39 x44 x45 j43 W41 a_ L40 hj48 HS42  hfr_; subst hfr_
      injection hj48 with hj48; subst hj48; try dsimp only at h
      refine hK26 _ _ ?_
      refine wp_seq_k (fun K49 hK50 => ?_)
      refine wp_seq_k (fun K51 hK52 => ?_)
      refine wp_region_lit ?_
      refine seqL1 (by kernel_rfl) ?_
      refine seqK rfl (does_run (run_load rfl Try.underlying2 rfl (by kernel_rfl : _ = Value.pointer (some ⟨b19, 0, none⟩)) (HS42.cell 0)) ?_)
      refine seqS4 (a' := ⟨#[.agg #[.int .i64 vw1.Hi, .int .u64 vw1.Lo], .int .i64 d2, .pointer (some ⟨b5, 0, none⟩), undef, .int .i64 0, .int .i64 0, .pointer (some ⟨b19, 0, none⟩), undef, undef, undef, .int .i64 d2, .bool false, .agg #[.int .i64 vw1.Hi, .int .u64 vw1.Lo], .pointer (some ⟨b5, 0, none⟩), .int .i64 vw1.Hi, (j43 0), (j43 1), (j43 2), .pointer (some ⟨b19, 0, none⟩), .int .i64 x44, .int .u64 (u64 (x44)), .int .i64 d2, .int .u64 (u64 (d2)), .bool (decide ((u64 (x44)) ≥ (u64 (d2)))), undef, undef, undef, undef, undef, undef, undef, undef, undef, undef, undef, undef, undef, undef, undef, undef, undef, undef, undef, undef, undef, undef, undef, undef, undef, undef, undef, undef, undef, undef, undef, undef, undef, undef, undef, undef, undef], []⟩) (by kernel_rfl) ?_
      refine wpList_nil ?_
      refine hK52 _ _ ?_
      have hq_ := ite_some h; clear h; rcases hq_ with ⟨c54, h⟩ | ⟨c54, h⟩
      · have c54 : (u64 (x44)) ≥ (u64 (d2)) := c54
        refine wpRwI 23 (x := (decide ((u64 (x44)) ≥ (u64 (d2))))) (v := true) (by kernel_rfl) (decide_eq_true c54) ?_
        refine condT (by kernel_rfl) ?_
        refine wp_seq_k (fun K55 hK56 => ?_)
        refine wp_region_lit ?_
        refine seqS2 (a' := ⟨#[.agg #[.int .i64 vw1.Hi, .int .u64 vw1.Lo], .int .i64 d2, .pointer (some ⟨b5, 0, none⟩), undef, .int .i64 0, .int .i64 2, .pointer (some ⟨b19, 0, none⟩), undef, undef, undef, .int .i64 d2, .bool false, .agg #[.int .i64 vw1.Hi, .int .u64 vw1.Lo], .pointer (some ⟨b5, 0, none⟩), .int .i64 vw1.Hi, (j43 0), (j43 1), (j43 2), .pointer (some ⟨b19, 0, none⟩), .int .i64 x44, .int .u64 (u64 (x44)), .int .i64 d2, .int .u64 (u64 (d2)), .bool true, undef, undef, undef, undef, undef, undef, undef, undef, undef, undef, undef, undef, undef, undef, undef, undef, undef, undef, undef, undef, undef, undef, undef, undef, undef, undef, undef, undef, undef, undef, undef, undef, undef, undef, undef, undef, undef], []⟩) (by kernel_rfl) ?_
        refine wpList_nil ?_
        refine hK56 _ _ ?_
        refine wp_ret ?_
        refine hret _ _ ?_
        refine ends_still (v := Value.tuple #[.int .i64 0, .int .i64 2]) (by kernel_rfl) (by kernel_rfl) ?_
        have HS130 := HS42.drop
        have HS131 := HS130.drop
        injection h with h
        injection h with h0_ h
        subst h0_ h
        exact ⟨f39, rfl, L40, HS131⟩
      · have c54 : ¬ ((u64 (x44)) ≥ (u64 (d2))) := c54
        refine wpRwI 23 (x := (decide ((u64 (x44)) ≥ (u64 (d2))))) (v := false) (by kernel_rfl) (decide_eq_false c54) ?_
        refine condF (by kernel_rfl) ?_
        refine wp_skip ?_
        refine hK50 _ _ ?_
        refine wp_seq_k (fun K57 hK58 => ?_)
        refine wp_region_lit ?_
        refine seqL1 (by kernel_rfl) ?_
        refine seqK rfl (does_run (run_load rfl Try.underlying2 rfl (by kernel_rfl : _ = Value.pointer (some ⟨b19, 0, none⟩)) (HS42.cell 0)) ?_)
        refine seqL2 (by kernel_rfl) ?_
        refine seqK rfl (does_run (run_load rfl Try.underlying61 rfl (by kernel_rfl : _ = Value.pointer (some ⟨b19, 1, none⟩)) (HS42.cell 1)) ?_)
        have hq_ := bind_some h; clear h; obtain ⟨⟨vt59, vt60⟩, hc61, h⟩ := hq_
        refine seqL2 (by kernel_rfl) ?_
        refine seqK rfl (does_call (f := 114) (args := #[.int .u64 (u64 (x44)), .int .u64 x45, .int .u64 (u64 (d2))]) (by kernel_rfl) (bits_Div64.calls k (u64 (x44)) x45 (u64 (d2)) HS42 vt59 vt60 hc61) ?_)
        rintro _ W64 ⟨f62, rfl, L63, HS65⟩
        refine ⟨_, rfl, ?_⟩
        refine seqS5 (a' := ⟨#[.agg #[.int .i64 vw1.Hi, .int .u64 vw1.Lo], .int .i64 d2, .pointer (some ⟨b5, 0, none⟩), undef, .int .i64 0, .int .i64 0, .pointer (some ⟨b19, 0, none⟩), .int .u64 vt59, .int .u64 vt60, undef, .int .i64 d2, .bool false, .agg #[.int .i64 vw1.Hi, .int .u64 vw1.Lo], .pointer (some ⟨b5, 0, none⟩), .int .i64 vw1.Hi, (j43 0), (j43 1), (j43 2), .pointer (some ⟨b19, 0, none⟩), .int .i64 x44, .int .u64 (u64 (x44)), .int .i64 d2, .int .u64 (u64 (d2)), .bool false, .tuple #[.int .u64 vt59, .int .u64 vt60], .pointer (some ⟨b19, 0, none⟩), .int .i64 x44, .int .u64 (u64 (x44)), .pointer (some ⟨b19, 1, none⟩), .int .u64 x45, .int .i64 d2, .int .u64 (u64 (d2)), .tuple #[.int .u64 vt59, .int .u64 vt60], .int .u64 vt59, .int .u64 vt60, undef, undef, undef, undef, undef, undef, undef, undef, undef, undef, undef, undef, undef, undef, undef, undef, undef, undef, undef, undef, undef, undef, undef, undef, undef, undef], []⟩) (by kernel_rfl) ?_
        refine wpList_nil ?_
        refine hK58 _ _ ?_
        refine wp_seq_k (fun K66 hK67 => ?_)
        refine wp_region_lit ?_
        refine seqS1 (a' := ⟨#[.agg #[.int .i64 vw1.Hi, .int .u64 vw1.Lo], .int .i64 d2, .pointer (some ⟨b5, 0, none⟩), undef, .int .i64 0, .int .i64 0, .pointer (some ⟨b19, 0, none⟩), .int .u64 vt59, .int .u64 vt60, .int .u64 9223372036854775807, .int .i64 d2, .bool false, .agg #[.int .i64 vw1.Hi, .int .u64 vw1.Lo], .pointer (some ⟨b5, 0, none⟩), .int .i64 vw1.Hi, (j43 0), (j43 1), (j43 2), .pointer (some ⟨b19, 0, none⟩), .int .i64 x44, .int .u64 (u64 (x44)), .int .i64 d2, .int .u64 (u64 (d2)), .bool false, .tuple #[.int .u64 vt59, .int .u64 vt60], .pointer (some ⟨b19, 0, none⟩), .int .i64 x44, .int .u64 (u64 (x44)), .pointer (some ⟨b19, 1, none⟩), .int .u64 x45, .int .i64 d2, .int .u64 (u64 (d2)), .tuple #[.int .u64 vt59, .int .u64 vt60], .int .u64 vt59, .int .u64 vt60, undef, undef, undef, undef, undef, undef, undef, undef, undef, undef, undef, undef, undef, undef, undef, undef, undef, undef, undef, undef, undef, undef, undef, undef, undef, undef], []⟩) (by kernel_rfl) ?_
        refine wpList_nil ?_
        refine hK67 _ _ ?_
        refine wp_seq_k (fun K68 hK69 => ?_)
        refine wp_seq_k (fun K70 hK71 => ?_)
        refine wp_region_lit ?_
        refine seqL1 (by kernel_rfl) ?_
        refine seqK rfl (does_run (run_load rfl Try.underlying2 rfl (by kernel_rfl : _ = Value.pointer (some ⟨b5, 0, none⟩)) (HS65.u1.cell 0)) ?_)
        refine seqS1 (a' := ⟨#[.agg #[.int .i64 vw1.Hi, .int .u64 vw1.Lo], .int .i64 d2, .pointer (some ⟨b5, 0, none⟩), undef, .int .i64 0, .int .i64 0, .pointer (some ⟨b19, 0, none⟩), .int .u64 vt59, .int .u64 vt60, .int .u64 9223372036854775807, .int .i64 d2, .bool false, .agg #[.int .i64 vw1.Hi, .int .u64 vw1.Lo], .pointer (some ⟨b5, 0, none⟩), .int .i64 vw1.Hi, (j43 0), (j43 1), (j43 2), .pointer (some ⟨b19, 0, none⟩), .int .i64 x44, .int .u64 (u64 (x44)), .int .i64 d2, .int .u64 (u64 (d2)), .bool false, .tuple #[.int .u64 vt59, .int .u64 vt60], .pointer (some ⟨b19, 0, none⟩), .int .i64 x44, .int .u64 (u64 (x44)), .pointer (some ⟨b19, 1, none⟩), .int .u64 x45, .int .i64 d2, .int .u64 (u64 (d2)), .tuple #[.int .u64 vt59, .int .u64 vt60], .int .u64 vt59, .int .u64 vt60, .pointer (some ⟨b5, 0, none⟩), .int .i64 vw1.Hi, .bool (decide (vw1.Hi < 0)), undef, undef, undef, undef, undef, undef, undef, undef, undef, undef, undef, undef, undef, undef, undef, undef, undef, undef, undef, undef, undef, undef, undef], []⟩) (by kernel_rfl) ?_
        refine wpList_nil ?_
        refine hK71 _ _ ?_
        have hq_ := bind_some h; clear h; obtain ⟨v72, hv95, h⟩ := hq_
        have J96 : ∀ (f89 : FM) (most94 : Int) (j93 : Nat → Value) (W91 : World) (a_ : Act), FM.le f62 f89 → some (most94) = some v72 → St t W91 f89 ([(b19, .cells #[.int .i64 x44, .int .u64 x45] 126 (0, 0))] :: [(b5, .cells #[.int .i64 vw1.Hi, .int .u64 vw1.Lo] 126 (0, 0))] :: H) → a_ = ⟨#[.agg #[.int .i64 vw1.Hi, .int .u64 vw1.Lo], .int .i64 d2, .pointer (some ⟨b5, 0, none⟩), undef, .int .i64 0, .int .i64 0, .pointer (some ⟨b19, 0, none⟩), .int .u64 vt59, .int .u64 vt60, .int .u64 most94, .int .i64 d2, .bool false, .agg #[.int .i64 vw1.Hi, .int .u64 vw1.Lo], .pointer (some ⟨b5, 0, none⟩), .int .i64 vw1.Hi, (j43 0), (j43 1), (j43 2), .pointer (some ⟨b19, 0, none⟩), .int .i64 x44, .int .u64 (u64 (x44)), .int .i64 d2, .int .u64 (u64 (d2)), .bool false, .tuple #[.int .u64 vt59, .int .u64 vt60], .pointer (some ⟨b19, 0, none⟩), .int .i64 x44, .int .u64 (u64 (x44)), .pointer (some ⟨b19, 1, none⟩), .int .u64 x45, .int .i64 d2, .int .u64 (u64 (d2)), .tuple #[.int .u64 vt59, .int .u64 vt60], .int .u64 vt59, .int .u64 vt60, .pointer (some ⟨b5, 0, none⟩), .int .i64 vw1.Hi, (j93 0), (j93 1), (j93 2), (j93 3), (j93 4), undef, undef, undef, undef, undef, undef, undef, undef, undef, undef, undef, undef, undef, undef, undef, undef, undef, undef, undef], []⟩ → K68 a_ W91 := by
          intro f89 most94 j93 W91 a_ L90 hj97 HS92  hfr_; subst hfr_
          injection hj97 with hj97; subst hj97; try dsimp only at h
          refine hK69 _ _ ?_
          refine wp_seq_k (fun K98 hK99 => ?_)
          refine wp_seq_k (fun K100 hK101 => ?_)
          refine wp_region_lit ?_
          refine seqS3 (a' := ⟨#[.agg #[.int .i64 vw1.Hi, .int .u64 vw1.Lo], .int .i64 d2, .pointer (some ⟨b5, 0, none⟩), undef, .int .i64 0, .int .i64 0, .pointer (some ⟨b19, 0, none⟩), .int .u64 vt59, .int .u64 vt60, .int .u64 most94, .int .i64 d2, .bool false, .agg #[.int .i64 vw1.Hi, .int .u64 vw1.Lo], .pointer (some ⟨b5, 0, none⟩), .int .i64 vw1.Hi, (j43 0), (j43 1), (j43 2), .pointer (some ⟨b19, 0, none⟩), .int .i64 x44, .int .u64 (u64 (x44)), .int .i64 d2, .int .u64 (u64 (d2)), .bool false, .tuple #[.int .u64 vt59, .int .u64 vt60], .pointer (some ⟨b19, 0, none⟩), .int .i64 x44, .int .u64 (u64 (x44)), .pointer (some ⟨b19, 1, none⟩), .int .u64 x45, .int .i64 d2, .int .u64 (u64 (d2)), .tuple #[.int .u64 vt59, .int .u64 vt60], .int .u64 vt59, .int .u64 vt60, .pointer (some ⟨b5, 0, none⟩), .int .i64 vw1.Hi, (j93 0), (j93 1), (j93 2), (j93 3), (j93 4), .int .u64 vt59, .int .u64 most94, .bool (decide (vt59 > most94)), undef, undef, undef, undef, undef, undef, undef, undef, undef, undef, undef, undef, undef, undef, undef, undef], []⟩) (by kernel_rfl) ?_
          refine wpList_nil ?_
          refine hK101 _ _ ?_
          have hq_ := ite_some h; clear h; rcases hq_ with ⟨c103, h⟩ | ⟨c103, h⟩
          · have c103 : vt59 > most94 := c103
            refine wpRwI 44 (x := (decide (vt59 > most94))) (v := true) (by kernel_rfl) (decide_eq_true c103) ?_
            refine condT (by kernel_rfl) ?_
            refine wp_seq_k (fun K104 hK105 => ?_)
            refine wp_region_lit ?_
            refine seqS2 (a' := ⟨#[.agg #[.int .i64 vw1.Hi, .int .u64 vw1.Lo], .int .i64 d2, .pointer (some ⟨b5, 0, none⟩), undef, .int .i64 0, .int .i64 2, .pointer (some ⟨b19, 0, none⟩), .int .u64 vt59, .int .u64 vt60, .int .u64 most94, .int .i64 d2, .bool false, .agg #[.int .i64 vw1.Hi, .int .u64 vw1.Lo], .pointer (some ⟨b5, 0, none⟩), .int .i64 vw1.Hi, (j43 0), (j43 1), (j43 2), .pointer (some ⟨b19, 0, none⟩), .int .i64 x44, .int .u64 (u64 (x44)), .int .i64 d2, .int .u64 (u64 (d2)), .bool false, .tuple #[.int .u64 vt59, .int .u64 vt60], .pointer (some ⟨b19, 0, none⟩), .int .i64 x44, .int .u64 (u64 (x44)), .pointer (some ⟨b19, 1, none⟩), .int .u64 x45, .int .i64 d2, .int .u64 (u64 (d2)), .tuple #[.int .u64 vt59, .int .u64 vt60], .int .u64 vt59, .int .u64 vt60, .pointer (some ⟨b5, 0, none⟩), .int .i64 vw1.Hi, (j93 0), (j93 1), (j93 2), (j93 3), (j93 4), .int .u64 vt59, .int .u64 most94, .bool true, undef, undef, undef, undef, undef, undef, undef, undef, undef, undef, undef, undef, undef, undef, undef, undef], []⟩) (by kernel_rfl) ?_
            refine wpList_nil ?_
            refine hK105 _ _ ?_
            refine wp_ret ?_
            refine hret _ _ ?_
            refine ends_still (v := Value.tuple #[.int .i64 0, .int .i64 2]) (by kernel_rfl) (by kernel_rfl) ?_
            have HS132 := HS92.drop
            have HS133 := HS132.drop
            injection h with h
            injection h with h0_ h
            subst h0_ h
            exact ⟨f89, rfl, (L40.trans (L63.trans L90)), HS133⟩
          · have c103 : ¬ (vt59 > most94) := c103
            refine wpRwI 44 (x := (decide (vt59 > most94))) (v := false) (by kernel_rfl) (decide_eq_false c103) ?_
            refine condF (by kernel_rfl) ?_
            refine wp_skip ?_
            refine hK99 _ _ ?_
            refine wp_seq_k (fun K106 hK107 => ?_)
            refine blockK (fun B108 hx109 hn110 hr111 ho112 hp113 => ?_)
            refine wp_seq_k (fun K115 hK116 => ?_)
            refine wp_region_lit ?_
            refine seqL1 (by kernel_rfl) ?_
            refine seqK rfl (does_run (run_load rfl Try.underlying2 rfl (by kernel_rfl : _ = Value.pointer (some ⟨b5, 0, none⟩)) (HS92.u1.cell 0)) ?_)
            refine seqS2 (a' := ⟨#[.agg #[.int .i64 vw1.Hi, .int .u64 vw1.Lo], .int .i64 d2, .pointer (some ⟨b5, 0, none⟩), undef, .int .i64 0, .int .i64 0, .pointer (some ⟨b19, 0, none⟩), .int .u64 vt59, .int .u64 vt60, .int .u64 most94, .int .i64 d2, .bool false, .agg #[.int .i64 vw1.Hi, .int .u64 vw1.Lo], .pointer (some ⟨b5, 0, none⟩), .int .i64 vw1.Hi, (j43 0), (j43 1), (j43 2), .pointer (some ⟨b19, 0, none⟩), .int .i64 x44, .int .u64 (u64 (x44)), .int .i64 d2, .int .u64 (u64 (d2)), .bool false, .tuple #[.int .u64 vt59, .int .u64 vt60], .pointer (some ⟨b19, 0, none⟩), .int .i64 x44, .int .u64 (u64 (x44)), .pointer (some ⟨b19, 1, none⟩), .int .u64 x45, .int .i64 d2, .int .u64 (u64 (d2)), .tuple #[.int .u64 vt59, .int .u64 vt60], .int .u64 vt59, .int .u64 vt60, .pointer (some ⟨b5, 0, none⟩), .int .i64 vw1.Hi, (j93 0), (j93 1), (j93 2), (j93 3), (j93 4), .int .u64 vt59, .int .u64 most94, .bool false, .bool (decide (vw1.Hi ≥ 0)), .pointer (some ⟨b5, 0, none⟩), .int .i64 vw1.Hi, .bool (decide (vw1.Hi ≥ 0)), undef, undef, undef, undef, undef, undef, undef, undef, undef, undef, undef, undef], []⟩) (by kernel_rfl) ?_
            refine wpList_nil ?_
            refine hK116 _ _ ?_
            have hq_ := ite_some h; clear h; rcases hq_ with ⟨c118, h⟩ | ⟨c118, h⟩
            · have c118 : vw1.Hi ≥ 0 := c118
              refine wpRwI 45 (x := (decide (vw1.Hi ≥ 0))) (v := true) (by kernel_rfl) (decide_eq_true c118) ?_
              refine wpRwI 48 (x := (decide (vw1.Hi ≥ 0))) (v := true) (by kernel_rfl) (decide_eq_true c118) ?_
              refine condT (by kernel_rfl) ?_
              refine wp_seq_k (fun K119 hK120 => ?_)
              refine wp_region_lit ?_
              refine seqS4 (a' := ⟨#[.agg #[.int .i64 vw1.Hi, .int .u64 vw1.Lo], .int .i64 d2, .pointer (some ⟨b5, 0, none⟩), undef, .int .i64 (w64 (vt59)), .int .i64 0, .pointer (some ⟨b19, 0, none⟩), .int .u64 vt59, .int .u64 vt60, .int .u64 most94, .int .i64 d2, .bool false, .agg #[.int .i64 vw1.Hi, .int .u64 vw1.Lo], .pointer (some ⟨b5, 0, none⟩), .int .i64 vw1.Hi, (j43 0), (j43 1), (j43 2), .pointer (some ⟨b19, 0, none⟩), .int .i64 x44, .int .u64 (u64 (x44)), .int .i64 d2, .int .u64 (u64 (d2)), .bool false, .tuple #[.int .u64 vt59, .int .u64 vt60], .pointer (some ⟨b19, 0, none⟩), .int .i64 x44, .int .u64 (u64 (x44)), .pointer (some ⟨b19, 1, none⟩), .int .u64 x45, .int .i64 d2, .int .u64 (u64 (d2)), .tuple #[.int .u64 vt59, .int .u64 vt60], .int .u64 vt59, .int .u64 vt60, .pointer (some ⟨b5, 0, none⟩), .int .i64 vw1.Hi, (j93 0), (j93 1), (j93 2), (j93 3), (j93 4), .int .u64 vt59, .int .u64 most94, .bool false, .bool true, .pointer (some ⟨b5, 0, none⟩), .int .i64 vw1.Hi, .bool true, .int .u64 vt59, .int .i64 (w64 (vt59)), undef, undef, undef, undef, undef, undef, undef, undef, undef, undef], []⟩) (by kernel_rfl) ?_
              refine wpList_nil ?_
              refine hK120 _ _ ?_
              refine wp_ret ?_
              refine hr111 _ _ ?_
              refine hret _ _ ?_
              refine ends_still (v := Value.tuple #[.int .i64 (w64 (vt59)), .int .i64 0]) (by kernel_rfl) (by kernel_rfl) ?_
              have HS134 := HS92.drop
              have HS135 := HS134.drop
              injection h with h
              injection h with h0_ h
              subst h0_ h
              exact ⟨f89, rfl, (L40.trans (L63.trans L90)), HS135⟩
            · have c118 : ¬ (vw1.Hi ≥ 0) := c118
              refine wpRwI 45 (x := (decide (vw1.Hi ≥ 0))) (v := false) (by kernel_rfl) (decide_eq_false c118) ?_
              refine wpRwI 48 (x := (decide (vw1.Hi ≥ 0))) (v := false) (by kernel_rfl) (decide_eq_false c118) ?_
              refine condF (by kernel_rfl) ?_
              refine wp_seq_k (fun K121 hK122 => ?_)
              refine wp_region_lit ?_
              refine seqS3 (a' := ⟨#[.agg #[.int .i64 vw1.Hi, .int .u64 vw1.Lo], .int .i64 d2, .pointer (some ⟨b5, 0, none⟩), undef, .int .i64 0, .int .i64 0, .pointer (some ⟨b19, 0, none⟩), .int .u64 vt59, .int .u64 vt60, .int .u64 most94, .int .i64 d2, .bool false, .agg #[.int .i64 vw1.Hi, .int .u64 vw1.Lo], .pointer (some ⟨b5, 0, none⟩), .int .i64 vw1.Hi, (j43 0), (j43 1), (j43 2), .pointer (some ⟨b19, 0, none⟩), .int .i64 x44, .int .u64 (u64 (x44)), .int .i64 d2, .int .u64 (u64 (d2)), .bool false, .tuple #[.int .u64 vt59, .int .u64 vt60], .pointer (some ⟨b19, 0, none⟩), .int .i64 x44, .int .u64 (u64 (x44)), .pointer (some ⟨b19, 1, none⟩), .int .u64 x45, .int .i64 d2, .int .u64 (u64 (d2)), .tuple #[.int .u64 vt59, .int .u64 vt60], .int .u64 vt59, .int .u64 vt60, .pointer (some ⟨b5, 0, none⟩), .int .i64 vw1.Hi, (j93 0), (j93 1), (j93 2), (j93 3), (j93 4), .int .u64 vt59, .int .u64 most94, .bool false, .bool false, .pointer (some ⟨b5, 0, none⟩), .int .i64 vw1.Hi, .bool false, undef, undef, .bool (decide (vt60 > 0)), .int .u64 vt60, .bool (decide (vt60 > 0)), undef, undef, undef, undef, undef, undef, undef], []⟩) (by kernel_rfl) ?_
              refine wpList_nil ?_
              refine hK122 _ _ ?_
              have hq_ := ite_some h; clear h; rcases hq_ with ⟨c124, h⟩ | ⟨c124, h⟩
              · have c124 : vt60 > 0 := c124
                refine wpRwI 51 (x := (decide (vt60 > 0))) (v := true) (by kernel_rfl) (decide_eq_true c124) ?_
                refine wpRwI 53 (x := (decide (vt60 > 0))) (v := true) (by kernel_rfl) (decide_eq_true c124) ?_
                refine condT (by kernel_rfl) ?_
                refine wp_seq_k (fun K125 hK126 => ?_)
                refine wp_region_lit ?_
                refine seqS6 (a' := ⟨#[.agg #[.int .i64 vw1.Hi, .int .u64 vw1.Lo], .int .i64 d2, .pointer (some ⟨b5, 0, none⟩), undef, .int .i64 (w64 ((w64 (u64 (0 - vt59))) - 1)), .int .i64 0, .pointer (some ⟨b19, 0, none⟩), .int .u64 vt59, .int .u64 vt60, .int .u64 most94, .int .i64 d2, .bool false, .agg #[.int .i64 vw1.Hi, .int .u64 vw1.Lo], .pointer (some ⟨b5, 0, none⟩), .int .i64 vw1.Hi, (j43 0), (j43 1), (j43 2), .pointer (some ⟨b19, 0, none⟩), .int .i64 x44, .int .u64 (u64 (x44)), .int .i64 d2, .int .u64 (u64 (d2)), .bool false, .tuple #[.int .u64 vt59, .int .u64 vt60], .pointer (some ⟨b19, 0, none⟩), .int .i64 x44, .int .u64 (u64 (x44)), .pointer (some ⟨b19, 1, none⟩), .int .u64 x45, .int .i64 d2, .int .u64 (u64 (d2)), .tuple #[.int .u64 vt59, .int .u64 vt60], .int .u64 vt59, .int .u64 vt60, .pointer (some ⟨b5, 0, none⟩), .int .i64 vw1.Hi, (j93 0), (j93 1), (j93 2), (j93 3), (j93 4), .int .u64 vt59, .int .u64 most94, .bool false, .bool false, .pointer (some ⟨b5, 0, none⟩), .int .i64 vw1.Hi, .bool false, undef, undef, .bool true, .int .u64 vt60, .bool true, .int .u64 vt59, .int .u64 (u64 (0 - vt59)), .int .i64 (w64 (u64 (0 - vt59))), .int .i64 (w64 ((w64 (u64 (0 - vt59))) - 1)), undef, undef, undef], []⟩) (by kernel_rfl) ?_
                refine wpList_nil ?_
                refine hK126 _ _ ?_
                refine wp_ret ?_
                refine hr111 _ _ ?_
                refine hret _ _ ?_
                refine ends_still (v := Value.tuple #[.int .i64 (w64 ((w64 (u64 (0 - vt59))) - 1)), .int .i64 0]) (by kernel_rfl) (by kernel_rfl) ?_
                have HS136 := HS92.drop
                have HS137 := HS136.drop
                injection h with h
                injection h with h0_ h
                subst h0_ h
                exact ⟨f89, rfl, (L40.trans (L63.trans L90)), HS137⟩
              · have c124 : ¬ (vt60 > 0) := c124
                refine wpRwI 51 (x := (decide (vt60 > 0))) (v := false) (by kernel_rfl) (decide_eq_false c124) ?_
                refine wpRwI 53 (x := (decide (vt60 > 0))) (v := false) (by kernel_rfl) (decide_eq_false c124) ?_
                refine condF (by kernel_rfl) ?_
                refine wp_skip ?_
                refine hn110 _ _ ?_
                refine hK107 _ _ ?_
                refine wp_seq_k (fun K127 hK128 => ?_)
                refine wp_region_lit ?_
                refine seqS5 (a' := ⟨#[.agg #[.int .i64 vw1.Hi, .int .u64 vw1.Lo], .int .i64 d2, .pointer (some ⟨b5, 0, none⟩), undef, .int .i64 (w64 (u64 (0 - vt59))), .int .i64 0, .pointer (some ⟨b19, 0, none⟩), .int .u64 vt59, .int .u64 vt60, .int .u64 most94, .int .i64 d2, .bool false, .agg #[.int .i64 vw1.Hi, .int .u64 vw1.Lo], .pointer (some ⟨b5, 0, none⟩), .int .i64 vw1.Hi, (j43 0), (j43 1), (j43 2), .pointer (some ⟨b19, 0, none⟩), .int .i64 x44, .int .u64 (u64 (x44)), .int .i64 d2, .int .u64 (u64 (d2)), .bool false, .tuple #[.int .u64 vt59, .int .u64 vt60], .pointer (some ⟨b19, 0, none⟩), .int .i64 x44, .int .u64 (u64 (x44)), .pointer (some ⟨b19, 1, none⟩), .int .u64 x45, .int .i64 d2, .int .u64 (u64 (d2)), .tuple #[.int .u64 vt59, .int .u64 vt60], .int .u64 vt59, .int .u64 vt60, .pointer (some ⟨b5, 0, none⟩), .int .i64 vw1.Hi, (j93 0), (j93 1), (j93 2), (j93 3), (j93 4), .int .u64 vt59, .int .u64 most94, .bool false, .bool false, .pointer (some ⟨b5, 0, none⟩), .int .i64 vw1.Hi, .bool false, undef, undef, .bool false, .int .u64 vt60, .bool false, undef, undef, undef, undef, .int .u64 vt59, .int .u64 (u64 (0 - vt59)), .int .i64 (w64 (u64 (0 - vt59)))], []⟩) (by kernel_rfl) ?_
                refine wpList_nil ?_
                refine hK128 _ _ ?_
                refine wp_ret ?_
                refine hret _ _ ?_
                refine ends_still (v := Value.tuple #[.int .i64 (w64 (u64 (0 - vt59))), .int .i64 0]) (by kernel_rfl) (by kernel_rfl) ?_
                have HS138 := HS92.drop
                have HS139 := HS138.drop
                injection h with h
                injection h with h0_ h
                subst h0_ h
                exact ⟨f89, rfl, (L40.trans (L63.trans L90)), HS139⟩
        clear h; have h := hv95; clear hv95
        have hq_ := ite_some h; clear h; rcases hq_ with ⟨c73, h⟩ | ⟨c73, h⟩
        · have c73 : vw1.Hi < 0 := c73
          refine wpRwI 37 (x := (decide (vw1.Hi < 0))) (v := true) (by kernel_rfl) (decide_eq_true c73) ?_
          refine condT (by kernel_rfl) ?_
          refine wp_seq_k (fun K74 hK75 => ?_)
          refine wp_region_lit ?_
          refine seqS1 (a' := ⟨#[.agg #[.int .i64 vw1.Hi, .int .u64 vw1.Lo], .int .i64 d2, .pointer (some ⟨b5, 0, none⟩), undef, .int .i64 0, .int .i64 0, .pointer (some ⟨b19, 0, none⟩), .int .u64 vt59, .int .u64 vt60, .int .u64 9223372036854775808, .int .i64 d2, .bool false, .agg #[.int .i64 vw1.Hi, .int .u64 vw1.Lo], .pointer (some ⟨b5, 0, none⟩), .int .i64 vw1.Hi, (j43 0), (j43 1), (j43 2), .pointer (some ⟨b19, 0, none⟩), .int .i64 x44, .int .u64 (u64 (x44)), .int .i64 d2, .int .u64 (u64 (d2)), .bool false, .tuple #[.int .u64 vt59, .int .u64 vt60], .pointer (some ⟨b19, 0, none⟩), .int .i64 x44, .int .u64 (u64 (x44)), .pointer (some ⟨b19, 1, none⟩), .int .u64 x45, .int .i64 d2, .int .u64 (u64 (d2)), .tuple #[.int .u64 vt59, .int .u64 vt60], .int .u64 vt59, .int .u64 vt60, .pointer (some ⟨b5, 0, none⟩), .int .i64 vw1.Hi, .bool true, undef, undef, undef, undef, undef, undef, undef, undef, undef, undef, undef, undef, undef, undef, undef, undef, undef, undef, undef, undef, undef, undef, undef], []⟩) (by kernel_rfl) ?_
          refine wpList_nil ?_
          refine hK75 _ _ ?_
          refine wp_seq_k (fun K76 hK77 => ?_)
          refine wp_region_lit ?_
          refine seqS2 (a' := ⟨#[.agg #[.int .i64 vw1.Hi, .int .u64 vw1.Lo], .int .i64 d2, .pointer (some ⟨b5, 0, none⟩), undef, .int .i64 0, .int .i64 0, .pointer (some ⟨b19, 0, none⟩), .int .u64 vt59, .int .u64 vt60, .int .u64 9223372036854775808, .int .i64 d2, .bool false, .agg #[.int .i64 vw1.Hi, .int .u64 vw1.Lo], .pointer (some ⟨b5, 0, none⟩), .int .i64 vw1.Hi, (j43 0), (j43 1), (j43 2), .pointer (some ⟨b19, 0, none⟩), .int .i64 x44, .int .u64 (u64 (x44)), .int .i64 d2, .int .u64 (u64 (d2)), .bool false, .tuple #[.int .u64 vt59, .int .u64 vt60], .pointer (some ⟨b19, 0, none⟩), .int .i64 x44, .int .u64 (u64 (x44)), .pointer (some ⟨b19, 1, none⟩), .int .u64 x45, .int .i64 d2, .int .u64 (u64 (d2)), .tuple #[.int .u64 vt59, .int .u64 vt60], .int .u64 vt59, .int .u64 vt60, .pointer (some ⟨b5, 0, none⟩), .int .i64 vw1.Hi, .bool true, .int .u64 vt60, .bool (decide (vt60 > 0)), undef, undef, undef, undef, undef, undef, undef, undef, undef, undef, undef, undef, undef, undef, undef, undef, undef, undef, undef, undef, undef], []⟩) (by kernel_rfl) ?_
          refine wpList_nil ?_
          refine hK77 _ _ ?_
          have hq_ := bind_some h; clear h; obtain ⟨v78, hv86, h⟩ := hq_
          have J87 : ∀ (f80 : FM) (most85 : Int) (j84 : Nat → Value) (W82 : World) (a_ : Act), FM.le f62 f80 → some (most85) = some v78 → St t W82 f80 ([(b19, .cells #[.int .i64 x44, .int .u64 x45] 126 (0, 0))] :: [(b5, .cells #[.int .i64 vw1.Hi, .int .u64 vw1.Lo] 126 (0, 0))] :: H) → a_ = ⟨#[.agg #[.int .i64 vw1.Hi, .int .u64 vw1.Lo], .int .i64 d2, .pointer (some ⟨b5, 0, none⟩), undef, .int .i64 0, .int .i64 0, .pointer (some ⟨b19, 0, none⟩), .int .u64 vt59, .int .u64 vt60, .int .u64 most85, .int .i64 d2, .bool false, .agg #[.int .i64 vw1.Hi, .int .u64 vw1.Lo], .pointer (some ⟨b5, 0, none⟩), .int .i64 vw1.Hi, (j43 0), (j43 1), (j43 2), .pointer (some ⟨b19, 0, none⟩), .int .i64 x44, .int .u64 (u64 (x44)), .int .i64 d2, .int .u64 (u64 (d2)), .bool false, .tuple #[.int .u64 vt59, .int .u64 vt60], .pointer (some ⟨b19, 0, none⟩), .int .i64 x44, .int .u64 (u64 (x44)), .pointer (some ⟨b19, 1, none⟩), .int .u64 x45, .int .i64 d2, .int .u64 (u64 (d2)), .tuple #[.int .u64 vt59, .int .u64 vt60], .int .u64 vt59, .int .u64 vt60, .pointer (some ⟨b5, 0, none⟩), .int .i64 vw1.Hi, .bool true, .int .u64 vt60, (j84 0), (j84 1), (j84 2), undef, undef, undef, undef, undef, undef, undef, undef, undef, undef, undef, undef, undef, undef, undef, undef, undef, undef, undef], []⟩ → K68 a_ W82 := by
            intro f80 most85 j84 W82 a_ L81 hj88 HS83  hfr_; subst hfr_
            injection hj88 with hj88; subst hj88; try dsimp only at h
            exact J96 f80 most85 (fun i_ => [Value.bool true, Value.int .u64 vt60, (j84 0), (j84 1), (j84 2)].getD i_ undef) W82 _ L81 h HS83 (by kernel_rfl)
          clear h; have h := hv86; clear hv86
          have hq_ := ite_some h; clear h; rcases hq_ with ⟨c79, h⟩ | ⟨c79, h⟩
          · have c79 : vt60 > 0 := c79
            refine wpRwI 39 (x := (decide (vt60 > 0))) (v := true) (by kernel_rfl) (decide_eq_true c79) ?_
            refine condT (by kernel_rfl) ?_
            refine wp_region_lit ?_
            refine seqS3 (a' := ⟨#[.agg #[.int .i64 vw1.Hi, .int .u64 vw1.Lo], .int .i64 d2, .pointer (some ⟨b5, 0, none⟩), undef, .int .i64 0, .int .i64 0, .pointer (some ⟨b19, 0, none⟩), .int .u64 vt59, .int .u64 vt60, .int .u64 (u64 (9223372036854775808 - 1)), .int .i64 d2, .bool false, .agg #[.int .i64 vw1.Hi, .int .u64 vw1.Lo], .pointer (some ⟨b5, 0, none⟩), .int .i64 vw1.Hi, (j43 0), (j43 1), (j43 2), .pointer (some ⟨b19, 0, none⟩), .int .i64 x44, .int .u64 (u64 (x44)), .int .i64 d2, .int .u64 (u64 (d2)), .bool false, .tuple #[.int .u64 vt59, .int .u64 vt60], .pointer (some ⟨b19, 0, none⟩), .int .i64 x44, .int .u64 (u64 (x44)), .pointer (some ⟨b19, 1, none⟩), .int .u64 x45, .int .i64 d2, .int .u64 (u64 (d2)), .tuple #[.int .u64 vt59, .int .u64 vt60], .int .u64 vt59, .int .u64 vt60, .pointer (some ⟨b5, 0, none⟩), .int .i64 vw1.Hi, .bool true, .int .u64 vt60, .bool true, .int .u64 9223372036854775808, .int .u64 (u64 (9223372036854775808 - 1)), undef, undef, undef, undef, undef, undef, undef, undef, undef, undef, undef, undef, undef, undef, undef, undef, undef, undef, undef], []⟩) (by kernel_rfl) ?_
            refine wpList_nil ?_
            exact J87 f62 (u64 (9223372036854775808 - 1)) (fun i_ => [Value.bool true, Value.int .u64 9223372036854775808, Value.int .u64 (u64 (9223372036854775808 - 1))].getD i_ undef) W64 _ (FM.le.refl _) h HS65 (by kernel_rfl)
          · have c79 : ¬ (vt60 > 0) := c79
            refine wpRwI 39 (x := (decide (vt60 > 0))) (v := false) (by kernel_rfl) (decide_eq_false c79) ?_
            refine condF (by kernel_rfl) ?_
            refine wp_skip ?_
            exact J87 f62 9223372036854775808 (fun i_ => [Value.bool false, undef, undef].getD i_ undef) W64 _ (FM.le.refl _) h HS65 (by kernel_rfl)
        · have c73 : ¬ (vw1.Hi < 0) := c73
          refine wpRwI 37 (x := (decide (vw1.Hi < 0))) (v := false) (by kernel_rfl) (decide_eq_false c73) ?_
          refine condF (by kernel_rfl) ?_
          refine wp_skip ?_
          exact J96 f62 9223372036854775807 (fun i_ => [Value.bool false, undef, undef, undef, undef].getD i_ undef) W64 _ (FM.le.refl _) h HS65 (by kernel_rfl)
    clear h; have h := hv46; clear hv46
    have hq_ := ite_some h; clear h; rcases hq_ with ⟨c30, h⟩ | ⟨c30, h⟩
    · have c30 : vw1.Hi < 0 := c30
      refine wpRwI 15 (x := (decide (vw1.Hi < 0))) (v := true) (by kernel_rfl) (decide_eq_true c30) ?_
      refine condT (by kernel_rfl) ?_
      refine wp_region_lit ?_
      refine seqK rfl (does_run (run_loadN (n := 2) rfl Try.underlying126 rfl (by kernel_rfl) (by kernel_rfl : _ = Value.pointer (some ⟨b5, 0, none⟩)) (cs := [.int .i64 vw1.Hi, .int .u64 vw1.Lo]) rfl (HS24.u1.cells 0 2 _ rfl)) ?_)
      have hq_ := bind_some h; clear h; obtain ⟨vt31, hc32, h⟩ := hq_
      refine seqK rfl (does_call (f := 113) (args := #[.agg #[.int .i64 vw1.Hi, .int .u64 vw1.Lo]]) (by kernel_rfl) (num_Wide_Neg.calls k vw1 HS24 vt31 hc32) ?_)
      rintro _ W35 ⟨f33, rfl, L34, HS36⟩
      refine ⟨_, rfl, ?_⟩
      refine seqK rfl (does_store (n := 2) (vs := [.int .i64 vt31.Hi, .int .u64 vt31.Lo]) (cs' := #[.int .i64 vt31.Hi, .int .u64 vt31.Lo]) rfl (by kernel_rfl) (by kernel_rfl : _ = Value.pointer (some ⟨b19, 0, none⟩)) (by kernel_rfl : _ = Value.agg #[.int .i64 vt31.Hi, .int .u64 vt31.Lo]) rfl rfl (by intro u_ hu_; simp only [List.mem_cons, List.not_mem_nil, or_false] at hu_; rcases hu_ with rfl | rfl <;> rfl) HS36 (Nat.le_of_ble_eq_true rfl) (by kernel_rfl) ?_)
      intro W37 HS38
      refine wpList_nil ?_
      exact J47 f33 vt31.Hi vt31.Lo (fun i_ => [Value.bool true, Value.agg #[.int .i64 vw1.Hi, .int .u64 vw1.Lo], Value.agg #[.int .i64 vt31.Hi, .int .u64 vt31.Lo]].getD i_ undef) W37 _ L34 h HS38 (by kernel_rfl)
    · have c30 : ¬ (vw1.Hi < 0) := c30
      refine wpRwI 15 (x := (decide (vw1.Hi < 0))) (v := false) (by kernel_rfl) (decide_eq_false c30) ?_
      refine condF (by kernel_rfl) ?_
      refine wp_skip ?_
      exact J47 f vw1.Hi vw1.Lo (fun i_ => [Value.bool false, undef, undef].getD i_ undef) W23 _ (FM.le.refl _) h HS24 (by kernel_rfl)

set_option maxRecDepth 100000 in
set_option maxHeartbeats 4000000 in
theorem num_MulDiv.calls (k : Nat)  (a1 : Int) (b2 : Int) (c3 : Int) {t w : World} {f : FM} {H : List Seg} (HS : St t w f (H)) (r1 : Int) (r2 : Int) (h : num_MulDiv k a1 b2 c3 = some (r1, r2)) :
    Calls Try.prog 52 #[.int .i64 a1, .int .i64 b2, .int .i64 c3] w (fun e w' => ∃ (g : FM), e = .returned (Value.tuple #[.int .i64 r1, .int .i64 r2]) ∧ FM.le f g ∧ St t w' g (H)) := by
  unfold num_MulDiv at h
  refine enter Try.func52 rfl (tm := #[.int .i64 a1, .int .i64 b2, .int .i64 c3, undef, undef, undef, undef, undef, undef, undef, undef, undef, undef, undef, undef]) (by kernel_rfl) ?_
  intro B hret hnor hnp
  refine wp_seq_k (fun K4 hK5 => ?_)
  refine wp_region_lit ?_
  refine seqS2 (a' := ⟨#[.int .i64 a1, .int .i64 b2, .int .i64 c3, undef, undef, undef, .int .i64 0, .int .i64 0, undef, undef, undef, undef, undef, undef, undef], []⟩) (by kernel_rfl) ?_
  refine wpList_nil ?_
  refine hK5 _ _ ?_
  refine wp_seq_k (fun K6 hK7 => ?_)
  refine wp_region_lit ?_
  have hq_ := bind_some h; clear h; obtain ⟨vt8, hc9, h⟩ := hq_
  refine seqL2 (by kernel_rfl) ?_
  refine seqK rfl (does_call (f := 90) (args := #[.int .i64 a1, .int .i64 b2]) (by kernel_rfl) (num_Product.calls k a1 b2 HS vt8 hc9) ?_)
  rintro _ W12 ⟨f10, rfl, L11, HS13⟩
  refine ⟨_, rfl, ?_⟩
  have hq_ := bind_some h; clear h; obtain ⟨⟨vt14, vt15⟩, hc16, h⟩ := hq_
  refine seqL1 (by kernel_rfl) ?_
  refine seqK rfl (does_call (f := 91) (args := #[.agg #[.int .i64 vt8.Hi, .int .u64 vt8.Lo], .int .i64 c3]) (by kernel_rfl) (num_Wide_Div.calls k vt8 c3 HS13 vt14 vt15 hc16) ?_)
  rintro _ W19 ⟨f17, rfl, L18, HS20⟩
  refine ⟨_, rfl, ?_⟩
  refine seqS4 (a' := ⟨#[.int .i64 a1, .int .i64 b2, .int .i64 c3, undef, undef, undef, .int .i64 vt14, .int .i64 vt15, .int .i64 a1, .int .i64 b2, .agg #[.int .i64 vt8.Hi, .int .u64 vt8.Lo], .int .i64 c3, .tuple #[.int .i64 vt14, .int .i64 vt15], .int .i64 vt14, .int .i64 vt15], []⟩) (by kernel_rfl) ?_
  refine wpList_nil ?_
  refine hK7 _ _ ?_
  refine wp_ret ?_
  refine hret _ _ ?_
  refine ends_still (v := Value.tuple #[.int .i64 vt14, .int .i64 vt15]) (by kernel_rfl) (by kernel_rfl) ?_
  injection h with h
  injection h with h0_ h
  subst h0_ h
  exact ⟨f17, rfl, (L11.trans L18), HS20⟩

set_option maxRecDepth 100000 in
set_option maxHeartbeats 4000000 in
theorem sensor_Expect.calls (k : Nat) (A2 : Option Addr) (c3 : Nat) (A5 : Option Addr) (c6 : Nat) (A8 : Option Addr) (c9 : Nat) (A12 : Option Addr) (c13 : Nat) (s1 : S_Sensor) (light11 : List Int) (beats15 : Int) {t w : World} {f : FM} {H : List Seg} (HS : St t w f (H)) (HR4 : SlR (tInt .i64) f A2 c3 s1.Bias) (HR7 : SlR (tInt .i64) f A5 c6 s1.Dark) (HR10 : SlR (tInt .i64) f A8 c9 s1.Flat) (HR14 : SlR (tInt .i64) f A12 c13 light11) (r1 : List Int) (r2 : Int) (h : sensor_Expect k s1 light11 beats15 = some (r1, r2)) :
    Calls Try.prog 28 #[.agg #[.int .i64 s1.W, .int .i64 s1.H, .slice A2 s1.Bias.length c3, .slice A5 s1.Dark.length c6, .slice A8 s1.Flat.length c9, .int .i64 s1.Full, .int .i64 s1.Gain, .int .i64 s1.Noise], .slice A12 light11.length c13, .int .i64 beats15] w (fun e w' => ∃ (g : FM) (A238 : Option Addr) (c239 : Nat) (s240 : Seg), e = .returned (Value.tuple #[.slice A238 r1.length c239, .int .i64 r2]) ∧ FM.le f g ∧ St t w' g (s240 :: H) ∧ Own (tInt .i64) 52 g A238 c239 s240 r1) := by
  unfold sensor_Expect at h
  refine enter Try.func28 rfl (tm := #[.agg #[.int .i64 s1.W, .int .i64 s1.H, .slice A2 s1.Bias.length c3, .slice A5 s1.Dark.length c6, .slice A8 s1.Flat.length c9, .int .i64 s1.Full, .int .i64 s1.Gain, .int .i64 s1.Noise], .slice A12 light11.length c13, .int .i64 beats15, undef, undef, undef, undef, undef, undef, undef, undef, undef, undef, undef, undef, undef, undef, undef, undef, undef, undef, undef, undef, undef, undef, undef, undef, undef, undef, undef, undef, undef, undef, undef, undef, undef, undef, undef, undef, undef, undef, undef, undef, undef, undef, undef, undef, undef, undef, undef, undef, undef, undef, undef, undef, undef, undef, undef, undef, undef, undef, undef, undef, undef, undef]) (by kernel_rfl) ?_
  intro B hret hnor hnp
  refine wp_seq_k (fun K16 hK17 => ?_)
  refine wp_region_lit ?_
  refine seqK rfl (does_box (cs := #[.int .i64 s1.W, .int .i64 s1.H, .slice A2 s1.Bias.length c3, .slice A5 s1.Dark.length c6, .slice A8 s1.Flat.length c9, .int .i64 s1.Full, .int .i64 s1.Gain, .int .i64 s1.Noise]) rfl (by kernel_rfl : _ = Value.agg #[.int .i64 s1.W, .int .i64 s1.H, .slice A2 s1.Bias.length c3, .slice A5 s1.Dark.length c6, .slice A8 s1.Flat.length c9, .int .i64 s1.Full, .int .i64 s1.Gain, .int .i64 s1.Noise]) rfl HS ?_)
  intro b18 W19 HS20
  refine seqS2 (a' := ⟨#[.agg #[.int .i64 s1.W, .int .i64 s1.H, .slice A2 s1.Bias.length c3, .slice A5 s1.Dark.length c6, .slice A8 s1.Flat.length c9, .int .i64 s1.Full, .int .i64 s1.Gain, .int .i64 s1.Noise], .slice A12 light11.length c13, .int .i64 beats15, .pointer (some ⟨b18, 0, none⟩), undef, undef, .slice none 0 0, .int .i64 0, undef, undef, undef, undef, undef, undef, undef, undef, undef, undef, undef, undef, undef, undef, undef, undef, undef, undef, undef, undef, undef, undef, undef, undef, undef, undef, undef, undef, undef, undef, undef, undef, undef, undef, undef, undef, undef, undef, undef, undef, undef, undef, undef, undef, undef, undef, undef, undef, undef, undef, undef, undef, undef, undef, undef, undef, undef], []⟩) (by kernel_rfl) ?_
  refine wpList_nil ?_
  refine hK17 _ _ ?_
  refine wp_seq_k (fun K22 hK23 => ?_)
  refine wp_seq_k (fun K24 hK25 => ?_)
  refine wp_region_lit ?_
  refine seqK rfl (does_run (run_loadN (n := 8) rfl Try.underlying64 rfl (by kernel_rfl) (by kernel_rfl : _ = Value.pointer (some ⟨b18, 0, none⟩)) (cs := [.int .i64 s1.W, .int .i64 s1.H, .slice A2 s1.Bias.length c3, .slice A5 s1.Dark.length c6, .slice A8 s1.Flat.length c9, .int .i64 s1.Full, .int .i64 s1.Gain, .int .i64 s1.Noise]) rfl (HS20.cells 0 8 _ rfl)) ?_)
  have hq_ := bind_some h; clear h; obtain ⟨vt26, hc27, h⟩ := hq_
  refine seqL2 (by kernel_rfl) ?_
  refine seqK rfl (does_call (f := 55) (args := #[.agg #[.int .i64 s1.W, .int .i64 s1.H, .slice A2 s1.Bias.length c3, .slice A5 s1.Dark.length c6, .slice A8 s1.Flat.length c9, .int .i64 s1.Full, .int .i64 s1.Gain, .int .i64 s1.Noise], .int .i64 (light11.length : Int)]) (by kernel_rfl) (sensor_sized.calls k A2 c3 A5 c6 A8 c9 s1 (light11.length : Int) HS20 HR4 HR7 HR10 vt26 hc27) ?_)
  rintro _ W30 ⟨f28, rfl, L29, HS31⟩
  refine ⟨_, rfl, ?_⟩
  refine seqS1 (a' := ⟨#[.agg #[.int .i64 s1.W, .int .i64 s1.H, .slice A2 s1.Bias.length c3, .slice A5 s1.Dark.length c6, .slice A8 s1.Flat.length c9, .int .i64 s1.Full, .int .i64 s1.Gain, .int .i64 s1.Noise], .slice A12 light11.length c13, .int .i64 beats15, .pointer (some ⟨b18, 0, none⟩), undef, undef, .slice none 0 0, .int .i64 0, .int .i64 vt26, undef, undef, undef, undef, undef, .agg #[.int .i64 s1.W, .int .i64 s1.H, .slice A2 s1.Bias.length c3, .slice A5 s1.Dark.length c6, .slice A8 s1.Flat.length c9, .int .i64 s1.Full, .int .i64 s1.Gain, .int .i64 s1.Noise], .slice A12 light11.length c13, .int .i64 (light11.length : Int), .int .i64 vt26, undef, undef, undef, undef, undef, undef, undef, undef, undef, undef, undef, undef, undef, undef, undef, undef, undef, undef, undef, undef, undef, undef, undef, undef, undef, undef, undef, undef, undef, undef, undef, undef, undef, undef, undef, undef, undef, undef, undef, undef, undef, undef, undef, undef, undef, undef, undef], []⟩) (by kernel_rfl) ?_
  refine wpList_nil ?_
  refine hK25 _ _ ?_
  refine wp_seq_k (fun K32 hK33 => ?_)
  refine wp_region_lit ?_
  refine seqS2 (a' := ⟨#[.agg #[.int .i64 s1.W, .int .i64 s1.H, .slice A2 s1.Bias.length c3, .slice A5 s1.Dark.length c6, .slice A8 s1.Flat.length c9, .int .i64 s1.Full, .int .i64 s1.Gain, .int .i64 s1.Noise], .slice A12 light11.length c13, .int .i64 beats15, .pointer (some ⟨b18, 0, none⟩), undef, undef, .slice none 0 0, .int .i64 0, .int .i64 vt26, undef, undef, undef, undef, undef, .agg #[.int .i64 s1.W, .int .i64 s1.H, .slice A2 s1.Bias.length c3, .slice A5 s1.Dark.length c6, .slice A8 s1.Flat.length c9, .int .i64 s1.Full, .int .i64 s1.Gain, .int .i64 s1.Noise], .slice A12 light11.length c13, .int .i64 (light11.length : Int), .int .i64 vt26, .int .i64 vt26, .bool (vt26 != 0), undef, undef, undef, undef, undef, undef, undef, undef, undef, undef, undef, undef, undef, undef, undef, undef, undef, undef, undef, undef, undef, undef, undef, undef, undef, undef, undef, undef, undef, undef, undef, undef, undef, undef, undef, undef, undef, undef, undef, undef, undef, undef, undef, undef, undef], []⟩) (by kernel_rfl) ?_
  refine wpList_nil ?_
  refine hK33 _ _ ?_
  have hq_ := ite_some h; clear h; rcases hq_ with ⟨c35, h⟩ | ⟨c35, h⟩
  · have c35 : vt26 ≠ 0 := c35
    refine wpRwI 19 (x := (vt26 != 0)) (v := true) (by kernel_rfl) (bne_iff_ne.mpr c35) ?_
    refine condT (by kernel_rfl) ?_
    refine wp_seq_k (fun K36 hK37 => ?_)
    refine wp_region_lit ?_
    refine seqS3 (a' := ⟨#[.agg #[.int .i64 s1.W, .int .i64 s1.H, .slice A2 s1.Bias.length c3, .slice A5 s1.Dark.length c6, .slice A8 s1.Flat.length c9, .int .i64 s1.Full, .int .i64 s1.Gain, .int .i64 s1.Noise], .slice A12 light11.length c13, .int .i64 beats15, .pointer (some ⟨b18, 0, none⟩), undef, undef, .slice none 0 0, .int .i64 vt26, .int .i64 vt26, undef, undef, undef, undef, undef, .agg #[.int .i64 s1.W, .int .i64 s1.H, .slice A2 s1.Bias.length c3, .slice A5 s1.Dark.length c6, .slice A8 s1.Flat.length c9, .int .i64 s1.Full, .int .i64 s1.Gain, .int .i64 s1.Noise], .slice A12 light11.length c13, .int .i64 (light11.length : Int), .int .i64 vt26, .int .i64 vt26, .bool true, .int .i64 vt26, undef, undef, undef, undef, undef, undef, undef, undef, undef, undef, undef, undef, undef, undef, undef, undef, undef, undef, undef, undef, undef, undef, undef, undef, undef, undef, undef, undef, undef, undef, undef, undef, undef, undef, undef, undef, undef, undef, undef, undef, undef, undef, undef, undef], []⟩) (by kernel_rfl) ?_
    refine wpList_nil ?_
    refine hK37 _ _ ?_
    refine wp_ret ?_
    refine hret _ _ ?_
    have HS220 := HS31.cons_nil
    refine ends_still (v := Value.tuple #[.slice none 0 0, .int .i64 vt26]) (by kernel_rfl) (by kernel_rfl) ?_
    have HS222 := HS220.u1
    have HS223 := HS222.drop
    injection h with h
    injection h with h0_ h
    subst h0_ h
    exact ⟨f28, none, 0, [], rfl, L29, HS223, (Own.nil _)⟩
  · have c35 : ¬ (vt26 ≠ 0) := c35
    refine wpRwI 19 (x := (vt26 != 0)) (v := false) (by kernel_rfl) (bne_eq_false_iff_eq.mpr (Decidable.of_not_not c35)) ?_
    refine condF (by kernel_rfl) ?_
    refine wp_skip ?_
    refine hK23 _ _ ?_
    refine wp_seq_k (fun K38 hK39 => ?_)
    refine wp_seq_k (fun K40 hK41 => ?_)
    refine wp_region_lit ?_
    refine seqS3 (a' := ⟨#[.agg #[.int .i64 s1.W, .int .i64 s1.H, .slice A2 s1.Bias.length c3, .slice A5 s1.Dark.length c6, .slice A8 s1.Flat.length c9, .int .i64 s1.Full, .int .i64 s1.Gain, .int .i64 s1.Noise], .slice A12 light11.length c13, .int .i64 beats15, .pointer (some ⟨b18, 0, none⟩), undef, undef, .slice none 0 0, .int .i64 0, .int .i64 vt26, undef, undef, undef, undef, undef, .agg #[.int .i64 s1.W, .int .i64 s1.H, .slice A2 s1.Bias.length c3, .slice A5 s1.Dark.length c6, .slice A8 s1.Flat.length c9, .int .i64 s1.Full, .int .i64 s1.Gain, .int .i64 s1.Noise], .slice A12 light11.length c13, .int .i64 (light11.length : Int), .int .i64 vt26, .int .i64 vt26, .bool false, undef, .int .i64 beats15, .bool (decide (beats15 < 0)), .bool (decide (beats15 < 0)), undef, undef, undef, undef, undef, undef, undef, undef, undef, undef, undef, undef, undef, undef, undef, undef, undef, undef, undef, undef, undef, undef, undef, undef, undef, undef, undef, undef, undef, undef, undef, undef, undef, undef, undef, undef, undef, undef, undef, undef, undef], []⟩) (by kernel_rfl) ?_
    have hq_ := ite_some h; clear h; rcases hq_ with ⟨c42, h⟩ | ⟨c42, h⟩
    · have c42 : beats15 < 0 := c42
      refine seqRwI 22 (x := (decide (beats15 < 0))) (v := true) (by kernel_rfl) (decide_eq_true c42) ?_
      refine seqRwI 23 (x := (decide (beats15 < 0))) (v := true) (by kernel_rfl) (decide_eq_true c42) ?_
      refine seqS7 (a' := ⟨#[.agg #[.int .i64 s1.W, .int .i64 s1.H, .slice A2 s1.Bias.length c3, .slice A5 s1.Dark.length c6, .slice A8 s1.Flat.length c9, .int .i64 s1.Full, .int .i64 s1.Gain, .int .i64 s1.Noise], .slice A12 light11.length c13, .int .i64 beats15, .pointer (some ⟨b18, 0, none⟩), undef, undef, .slice none 0 0, .int .i64 0, .int .i64 vt26, undef, undef, undef, undef, undef, .agg #[.int .i64 s1.W, .int .i64 s1.H, .slice A2 s1.Bias.length c3, .slice A5 s1.Dark.length c6, .slice A8 s1.Flat.length c9, .int .i64 s1.Full, .int .i64 s1.Gain, .int .i64 s1.Noise], .slice A12 light11.length c13, .int .i64 (light11.length : Int), .int .i64 vt26, .int .i64 vt26, .bool false, undef, .int .i64 beats15, .bool true, .bool true, undef, undef, .bool true, .bool true, undef, undef, .bool true, undef, undef, undef, undef, undef, undef, undef, undef, undef, undef, undef, undef, undef, undef, undef, undef, undef, undef, undef, undef, undef, undef, undef, undef, undef, undef, undef, undef, undef, undef, undef, undef, undef, undef], []⟩) (by kernel_rfl) ?_
      refine wpList_nil ?_
      refine hK41 _ _ ?_
      refine condT (by kernel_rfl) ?_
      refine wp_seq_k (fun K43 hK44 => ?_)
      refine wp_region_lit ?_
      refine seqS2 (a' := ⟨#[.agg #[.int .i64 s1.W, .int .i64 s1.H, .slice A2 s1.Bias.length c3, .slice A5 s1.Dark.length c6, .slice A8 s1.Flat.length c9, .int .i64 s1.Full, .int .i64 s1.Gain, .int .i64 s1.Noise], .slice A12 light11.length c13, .int .i64 beats15, .pointer (some ⟨b18, 0, none⟩), undef, undef, .slice none 0 0, .int .i64 4, .int .i64 vt26, undef, undef, undef, undef, undef, .agg #[.int .i64 s1.W, .int .i64 s1.H, .slice A2 s1.Bias.length c3, .slice A5 s1.Dark.length c6, .slice A8 s1.Flat.length c9, .int .i64 s1.Full, .int .i64 s1.Gain, .int .i64 s1.Noise], .slice A12 light11.length c13, .int .i64 (light11.length : Int), .int .i64 vt26, .int .i64 vt26, .bool false, undef, .int .i64 beats15, .bool true, .bool true, undef, undef, .bool true, .bool true, undef, undef, .bool true, undef, undef, undef, undef, undef, undef, undef, undef, undef, undef, undef, undef, undef, undef, undef, undef, undef, undef, undef, undef, undef, undef, undef, undef, undef, undef, undef, undef, undef, undef, undef, undef, undef, undef], []⟩) (by kernel_rfl) ?_
      refine wpList_nil ?_
      refine hK44 _ _ ?_
      refine wp_ret ?_
      refine hret _ _ ?_
      have HS224 := HS31.cons_nil
      refine ends_still (v := Value.tuple #[.slice none 0 0, .int .i64 4]) (by kernel_rfl) (by kernel_rfl) ?_
      have HS226 := HS224.u1
      have HS227 := HS226.drop
      injection h with h
      injection h with h0_ h
      subst h0_ h
      exact ⟨f28, none, 0, [], rfl, L29, HS227, (Own.nil _)⟩
    · have c42 : ¬ (beats15 < 0) := c42
      refine seqRwI 22 (x := (decide (beats15 < 0))) (v := false) (by kernel_rfl) (decide_eq_false c42) ?_
      refine seqRwI 23 (x := (decide (beats15 < 0))) (v := false) (by kernel_rfl) (decide_eq_false c42) ?_
      refine seqS4 (a' := ⟨#[.agg #[.int .i64 s1.W, .int .i64 s1.H, .slice A2 s1.Bias.length c3, .slice A5 s1.Dark.length c6, .slice A8 s1.Flat.length c9, .int .i64 s1.Full, .int .i64 s1.Gain, .int .i64 s1.Noise], .slice A12 light11.length c13, .int .i64 beats15, .pointer (some ⟨b18, 0, none⟩), undef, undef, .slice none 0 0, .int .i64 0, .int .i64 vt26, undef, undef, undef, undef, undef, .agg #[.int .i64 s1.W, .int .i64 s1.H, .slice A2 s1.Bias.length c3, .slice A5 s1.Dark.length c6, .slice A8 s1.Flat.length c9, .int .i64 s1.Full, .int .i64 s1.Gain, .int .i64 s1.Noise], .slice A12 light11.length c13, .int .i64 (light11.length : Int), .int .i64 vt26, .int .i64 vt26, .bool false, undef, .int .i64 beats15, .bool false, .bool false, .int .i64 beats15, .bool (decide (beats15 > 16)), .bool (decide (beats15 > 16)), .bool (decide (beats15 > 16)), undef, undef, undef, undef, undef, undef, undef, undef, undef, undef, undef, undef, undef, undef, undef, undef, undef, undef, undef, undef, undef, undef, undef, undef, undef, undef, undef, undef, undef, undef, undef, undef, undef, undef, undef, undef, undef], []⟩) (by kernel_rfl) ?_
      have hq_ := ite_some h; clear h; rcases hq_ with ⟨c45, h⟩ | ⟨c45, h⟩
      · have c45 : beats15 > 16 := c45
        refine seqRwI 25 (x := (decide (beats15 > 16))) (v := true) (by kernel_rfl) (decide_eq_true c45) ?_
        refine seqRwI 26 (x := (decide (beats15 > 16))) (v := true) (by kernel_rfl) (decide_eq_true c45) ?_
        refine seqRwI 27 (x := (decide (beats15 > 16))) (v := true) (by kernel_rfl) (decide_eq_true c45) ?_
        refine seqS3 (a' := ⟨#[.agg #[.int .i64 s1.W, .int .i64 s1.H, .slice A2 s1.Bias.length c3, .slice A5 s1.Dark.length c6, .slice A8 s1.Flat.length c9, .int .i64 s1.Full, .int .i64 s1.Gain, .int .i64 s1.Noise], .slice A12 light11.length c13, .int .i64 beats15, .pointer (some ⟨b18, 0, none⟩), undef, undef, .slice none 0 0, .int .i64 0, .int .i64 vt26, undef, undef, undef, undef, undef, .agg #[.int .i64 s1.W, .int .i64 s1.H, .slice A2 s1.Bias.length c3, .slice A5 s1.Dark.length c6, .slice A8 s1.Flat.length c9, .int .i64 s1.Full, .int .i64 s1.Gain, .int .i64 s1.Noise], .slice A12 light11.length c13, .int .i64 (light11.length : Int), .int .i64 vt26, .int .i64 vt26, .bool false, undef, .int .i64 beats15, .bool false, .bool false, .int .i64 beats15, .bool true, .bool true, .bool true, undef, undef, .bool true, undef, undef, undef, undef, undef, undef, undef, undef, undef, undef, undef, undef, undef, undef, undef, undef, undef, undef, undef, undef, undef, undef, undef, undef, undef, undef, undef, undef, undef, undef, undef, undef, undef, undef], []⟩) (by kernel_rfl) ?_
        refine wpList_nil ?_
        refine hK41 _ _ ?_
        refine condT (by kernel_rfl) ?_
        refine wp_seq_k (fun K46 hK47 => ?_)
        refine wp_region_lit ?_
        refine seqS2 (a' := ⟨#[.agg #[.int .i64 s1.W, .int .i64 s1.H, .slice A2 s1.Bias.length c3, .slice A5 s1.Dark.length c6, .slice A8 s1.Flat.length c9, .int .i64 s1.Full, .int .i64 s1.Gain, .int .i64 s1.Noise], .slice A12 light11.length c13, .int .i64 beats15, .pointer (some ⟨b18, 0, none⟩), undef, undef, .slice none 0 0, .int .i64 4, .int .i64 vt26, undef, undef, undef, undef, undef, .agg #[.int .i64 s1.W, .int .i64 s1.H, .slice A2 s1.Bias.length c3, .slice A5 s1.Dark.length c6, .slice A8 s1.Flat.length c9, .int .i64 s1.Full, .int .i64 s1.Gain, .int .i64 s1.Noise], .slice A12 light11.length c13, .int .i64 (light11.length : Int), .int .i64 vt26, .int .i64 vt26, .bool false, undef, .int .i64 beats15, .bool false, .bool false, .int .i64 beats15, .bool true, .bool true, .bool true, undef, undef, .bool true, undef, undef, undef, undef, undef, undef, undef, undef, undef, undef, undef, undef, undef, undef, undef, undef, undef, undef, undef, undef, undef, undef, undef, undef, undef, undef, undef, undef, undef, undef, undef, undef, undef, undef], []⟩) (by kernel_rfl) ?_
        refine wpList_nil ?_
        refine hK47 _ _ ?_
        refine wp_ret ?_
        refine hret _ _ ?_
        have HS228 := HS31.cons_nil
        refine ends_still (v := Value.tuple #[.slice none 0 0, .int .i64 4]) (by kernel_rfl) (by kernel_rfl) ?_
        have HS230 := HS228.u1
        have HS231 := HS230.drop
        injection h with h
        injection h with h0_ h
        subst h0_ h
        exact ⟨f28, none, 0, [], rfl, L29, HS231, (Own.nil _)⟩
      · have c45 : ¬ (beats15 > 16) := c45
        refine seqRwI 25 (x := (decide (beats15 > 16))) (v := false) (by kernel_rfl) (decide_eq_false c45) ?_
        refine seqRwI 26 (x := (decide (beats15 > 16))) (v := false) (by kernel_rfl) (decide_eq_false c45) ?_
        refine seqRwI 27 (x := (decide (beats15 > 16))) (v := false) (by kernel_rfl) (decide_eq_false c45) ?_
        have hq_ := bind_some h; clear h; obtain ⟨vt48, hc49, h⟩ := hq_
        refine seqL1 (by kernel_rfl) ?_
        refine seqG (by kernel_rfl) (does_call (f := 56) (args := #[.slice A12 light11.length c13, .int .i64 72057594037927936]) (by kernel_rfl) (sensor_outside_Light.calls k A12 c13 light11 72057594037927936 HS31 (HR14.mono L29) vt48 hc49) ?_)
        rintro _ W52 ⟨f50, rfl, L51, HS53⟩
        refine ⟨_, rfl, ?_⟩
        refine seqS1 (a' := ⟨#[.agg #[.int .i64 s1.W, .int .i64 s1.H, .slice A2 s1.Bias.length c3, .slice A5 s1.Dark.length c6, .slice A8 s1.Flat.length c9, .int .i64 s1.Full, .int .i64 s1.Gain, .int .i64 s1.Noise], .slice A12 light11.length c13, .int .i64 beats15, .pointer (some ⟨b18, 0, none⟩), undef, undef, .slice none 0 0, .int .i64 0, .int .i64 vt26, undef, undef, undef, undef, undef, .agg #[.int .i64 s1.W, .int .i64 s1.H, .slice A2 s1.Bias.length c3, .slice A5 s1.Dark.length c6, .slice A8 s1.Flat.length c9, .int .i64 s1.Full, .int .i64 s1.Gain, .int .i64 s1.Noise], .slice A12 light11.length c13, .int .i64 (light11.length : Int), .int .i64 vt26, .int .i64 vt26, .bool false, undef, .int .i64 beats15, .bool false, .bool false, .int .i64 beats15, .bool false, .bool false, .bool false, .slice A12 light11.length c13, .bool vt48, .bool vt48, undef, undef, undef, undef, undef, undef, undef, undef, undef, undef, undef, undef, undef, undef, undef, undef, undef, undef, undef, undef, undef, undef, undef, undef, undef, undef, undef, undef, undef, undef, undef, undef, undef, undef], []⟩) (by kernel_rfl) ?_
        refine wpList_nil ?_
        refine hK41 _ _ ?_
        have hq_ := ite_some h; clear h; rcases hq_ with ⟨c55, h⟩ | ⟨c55, h⟩
        · have c55 : vt48 = true := c55
          refine wpRwI 29 (x := vt48) (v := true) (by kernel_rfl) c55 ?_
          refine wpRwI 30 (x := vt48) (v := true) (by kernel_rfl) c55 ?_
          refine condT (by kernel_rfl) ?_
          refine wp_seq_k (fun K56 hK57 => ?_)
          refine wp_region_lit ?_
          refine seqS2 (a' := ⟨#[.agg #[.int .i64 s1.W, .int .i64 s1.H, .slice A2 s1.Bias.length c3, .slice A5 s1.Dark.length c6, .slice A8 s1.Flat.length c9, .int .i64 s1.Full, .int .i64 s1.Gain, .int .i64 s1.Noise], .slice A12 light11.length c13, .int .i64 beats15, .pointer (some ⟨b18, 0, none⟩), undef, undef, .slice none 0 0, .int .i64 4, .int .i64 vt26, undef, undef, undef, undef, undef, .agg #[.int .i64 s1.W, .int .i64 s1.H, .slice A2 s1.Bias.length c3, .slice A5 s1.Dark.length c6, .slice A8 s1.Flat.length c9, .int .i64 s1.Full, .int .i64 s1.Gain, .int .i64 s1.Noise], .slice A12 light11.length c13, .int .i64 (light11.length : Int), .int .i64 vt26, .int .i64 vt26, .bool false, undef, .int .i64 beats15, .bool false, .bool false, .int .i64 beats15, .bool false, .bool false, .bool false, .slice A12 light11.length c13, .bool true, .bool true, undef, undef, undef, undef, undef, undef, undef, undef, undef, undef, undef, undef, undef, undef, undef, undef, undef, undef, undef, undef, undef, undef, undef, undef, undef, undef, undef, undef, undef, undef, undef, undef, undef, undef], []⟩) (by kernel_rfl) ?_
          refine wpList_nil ?_
          refine hK57 _ _ ?_
          refine wp_ret ?_
          refine hret _ _ ?_
          have HS232 := HS53.cons_nil
          refine ends_still (v := Value.tuple #[.slice none 0 0, .int .i64 4]) (by kernel_rfl) (by kernel_rfl) ?_
          have HS234 := HS232.u1
          have HS235 := HS234.drop
          injection h with h
          injection h with h0_ h
          subst h0_ h
          exact ⟨f50, none, 0, [], rfl, (L29.trans L51), HS235, (Own.nil _)⟩
        · have c55 : ¬ (vt48 = true) := c55
          refine wpRwI 29 (x := vt48) (v := false) (by kernel_rfl) (Bool.eq_false_iff.mpr c55) ?_
          refine wpRwI 30 (x := vt48) (v := false) (by kernel_rfl) (Bool.eq_false_iff.mpr c55) ?_
          refine condF (by kernel_rfl) ?_
          refine wp_skip ?_
          refine hK39 _ _ ?_
          refine wp_seq_k (fun K58 hK59 => ?_)
          refine wp_region_lit ?_
          have hq_ := guard_some h; clear h; obtain ⟨c60, h⟩ := hq_
          have c60 : 0 ≤ (light11.length : Int) := c60
          have hq_ := guard_some h; clear h; obtain ⟨c61, h⟩ := hq_
          have c61 : (light11.length : Int) * 8 ≤ 140737488355328 := c61
          refine seqL2 (by kernel_rfl) ?_
          refine seqK rfl (does_make (e := (tInt .i64)) (E := 52) (u := 0) (n := (light11.length : Int)) rfl (by kernel_rfl : _ = Value.int .i64 (light11.length : Int)) (by kernel_rfl : _ = Value.int .i64 (light11.length : Int)) Try.underlying62 inf52 c60 c61 (by omega) rfl HS53 ?_)
          intro b62 W63 s64 HS65 HO66
          refine seqS1 (a' := ⟨#[.agg #[.int .i64 s1.W, .int .i64 s1.H, .slice A2 s1.Bias.length c3, .slice A5 s1.Dark.length c6, .slice A8 s1.Flat.length c9, .int .i64 s1.Full, .int .i64 s1.Gain, .int .i64 s1.Noise], .slice A12 light11.length c13, .int .i64 beats15, .pointer (some ⟨b18, 0, none⟩), undef, undef, .slice none 0 0, .int .i64 0, .int .i64 vt26, .slice (some ⟨b62, 0, none⟩) (List.replicate ((light11.length : Int)).toNat (0 : Int)).length ((light11.length : Int)).toNat, undef, undef, undef, undef, .agg #[.int .i64 s1.W, .int .i64 s1.H, .slice A2 s1.Bias.length c3, .slice A5 s1.Dark.length c6, .slice A8 s1.Flat.length c9, .int .i64 s1.Full, .int .i64 s1.Gain, .int .i64 s1.Noise], .slice A12 light11.length c13, .int .i64 (light11.length : Int), .int .i64 vt26, .int .i64 vt26, .bool false, undef, .int .i64 beats15, .bool false, .bool false, .int .i64 beats15, .bool false, .bool false, .bool false, .slice A12 light11.length c13, .bool false, .bool false, .slice A12 light11.length c13, .int .i64 (light11.length : Int), .slice (some ⟨b62, 0, none⟩) (List.replicate ((light11.length : Int)).toNat (0 : Int)).length ((light11.length : Int)).toNat, undef, undef, undef, undef, undef, undef, undef, undef, undef, undef, undef, undef, undef, undef, undef, undef, undef, undef, undef, undef, undef, undef, undef, undef, undef, undef, undef, undef, undef, undef, undef], []⟩) (by kernel_rfl) ?_
          refine wpList_nil ?_
          refine hK59 _ _ ?_
          refine wp_seq_k (fun K68 hK69 => ?_)
          refine wp_seq_k (fun K70 hK71 => ?_)
          refine wp_region_lit ?_
          refine seqS3 (a' := ⟨#[.agg #[.int .i64 s1.W, .int .i64 s1.H, .slice A2 s1.Bias.length c3, .slice A5 s1.Dark.length c6, .slice A8 s1.Flat.length c9, .int .i64 s1.Full, .int .i64 s1.Gain, .int .i64 s1.Noise], .slice A12 light11.length c13, .int .i64 beats15, .pointer (some ⟨b18, 0, none⟩), undef, undef, .slice none 0 0, .int .i64 0, .int .i64 vt26, .slice (some ⟨b62, 0, none⟩) (List.replicate ((light11.length : Int)).toNat (0 : Int)).length ((light11.length : Int)).toNat, undef, undef, undef, undef, .agg #[.int .i64 s1.W, .int .i64 s1.H, .slice A2 s1.Bias.length c3, .slice A5 s1.Dark.length c6, .slice A8 s1.Flat.length c9, .int .i64 s1.Full, .int .i64 s1.Gain, .int .i64 s1.Noise], .slice A12 light11.length c13, .int .i64 (light11.length : Int), .int .i64 vt26, .int .i64 vt26, .bool false, undef, .int .i64 beats15, .bool false, .bool false, .int .i64 beats15, .bool false, .bool false, .bool false, .slice A12 light11.length c13, .bool false, .bool false, .slice A12 light11.length c13, .int .i64 (light11.length : Int), .slice (some ⟨b62, 0, none⟩) (List.replicate ((light11.length : Int)).toNat (0 : Int)).length ((light11.length : Int)).toNat, .slice A12 light11.length c13, .int .i64 (light11.length : Int), .int .i64 0, undef, undef, undef, undef, undef, undef, undef, undef, undef, undef, undef, undef, undef, undef, undef, undef, undef, undef, undef, undef, undef, undef, undef, undef, undef, undef, undef, undef], []⟩) (by kernel_rfl) ?_
          refine wpList_nil ?_
          refine hK71 _ _ ?_
          refine blockK (fun B72 hx73 hn74 hr75 ho76 hp77 => ?_)
          have hq_ := bind_some h; clear h; obtain ⟨o140, hv215, h⟩ := hq_
          have J216 : ∀ (f206 : FM) (s212 : Seg) (out211 : List Int) (j210 : Nat → Value) (W208 : World) (a_ : Act), FM.le f50 f206 → some (out211) = some o140 → St t W208 f206 (s212 :: [(b18, .cells #[.int .i64 s1.W, .int .i64 s1.H, .slice A2 s1.Bias.length c3, .slice A5 s1.Dark.length c6, .slice A8 s1.Flat.length c9, .int .i64 s1.Full, .int .i64 s1.Gain, .int .i64 s1.Noise] 64 (0, 0))] :: H) → Own (tInt .i64) 52 f206 (some ⟨b62, 0, none⟩) ((light11.length : Int)).toNat s212 out211 → out211.length = (List.replicate ((light11.length : Int)).toNat (0 : Int)).length → a_ = ⟨#[.agg #[.int .i64 s1.W, .int .i64 s1.H, .slice A2 s1.Bias.length c3, .slice A5 s1.Dark.length c6, .slice A8 s1.Flat.length c9, .int .i64 s1.Full, .int .i64 s1.Gain, .int .i64 s1.Noise], .slice A12 light11.length c13, .int .i64 beats15, .pointer (some ⟨b18, 0, none⟩), undef, undef, .slice none 0 0, .int .i64 0, .int .i64 vt26, .slice (some ⟨b62, 0, none⟩) out211.length ((light11.length : Int)).toNat, (j210 0), (j210 1), (j210 2), (j210 3), .agg #[.int .i64 s1.W, .int .i64 s1.H, .slice A2 s1.Bias.length c3, .slice A5 s1.Dark.length c6, .slice A8 s1.Flat.length c9, .int .i64 s1.Full, .int .i64 s1.Gain, .int .i64 s1.Noise], .slice A12 light11.length c13, .int .i64 (light11.length : Int), .int .i64 vt26, .int .i64 vt26, .bool false, undef, .int .i64 beats15, .bool false, .bool false, .int .i64 beats15, .bool false, .bool false, .bool false, .slice A12 light11.length c13, .bool false, .bool false, .slice A12 light11.length c13, .int .i64 (light11.length : Int), .slice (some ⟨b62, 0, none⟩) (List.replicate ((light11.length : Int)).toNat (0 : Int)).length ((light11.length : Int)).toNat, .slice A12 light11.length c13, .int .i64 (light11.length : Int), (j210 4), (j210 5), (j210 6), (j210 7), (j210 8), (j210 9), (j210 10), (j210 11), (j210 12), (j210 13), (j210 14), (j210 15), (j210 16), (j210 17), (j210 18), (j210 19), (j210 20), (j210 21), (j210 22), (j210 23), (j210 24), (j210 25), (j210 26), (j210 27), (j210 28), (j210 29), (j210 30), (j210 31), undef], []⟩ → K68 a_ W208 := by
            intro f206 s212 out211 j210 W208 a_ L207 hj217 HS209 HO213 HL214 hfr_; subst hfr_
            injection hj217 with hj217; subst hj217; try dsimp only at h
            refine hK69 _ _ ?_
            refine wp_seq_k (fun K218 hK219 => ?_)
            refine wp_region_lit ?_
            refine seqS3 (a' := ⟨#[.agg #[.int .i64 s1.W, .int .i64 s1.H, .slice A2 s1.Bias.length c3, .slice A5 s1.Dark.length c6, .slice A8 s1.Flat.length c9, .int .i64 s1.Full, .int .i64 s1.Gain, .int .i64 s1.Noise], .slice A12 light11.length c13, .int .i64 beats15, .pointer (some ⟨b18, 0, none⟩), undef, undef, .slice (some ⟨b62, 0, none⟩) out211.length ((light11.length : Int)).toNat, .int .i64 0, .int .i64 vt26, .slice (some ⟨b62, 0, none⟩) out211.length ((light11.length : Int)).toNat, (j210 0), (j210 1), (j210 2), (j210 3), .agg #[.int .i64 s1.W, .int .i64 s1.H, .slice A2 s1.Bias.length c3, .slice A5 s1.Dark.length c6, .slice A8 s1.Flat.length c9, .int .i64 s1.Full, .int .i64 s1.Gain, .int .i64 s1.Noise], .slice A12 light11.length c13, .int .i64 (light11.length : Int), .int .i64 vt26, .int .i64 vt26, .bool false, undef, .int .i64 beats15, .bool false, .bool false, .int .i64 beats15, .bool false, .bool false, .bool false, .slice A12 light11.length c13, .bool false, .bool false, .slice A12 light11.length c13, .int .i64 (light11.length : Int), .slice (some ⟨b62, 0, none⟩) (List.replicate ((light11.length : Int)).toNat (0 : Int)).length ((light11.length : Int)).toNat, .slice A12 light11.length c13, .int .i64 (light11.length : Int), (j210 4), (j210 5), (j210 6), (j210 7), (j210 8), (j210 9), (j210 10), (j210 11), (j210 12), (j210 13), (j210 14), (j210 15), (j210 16), (j210 17), (j210 18), (j210 19), (j210 20), (j210 21), (j210 22), (j210 23), (j210 24), (j210 25), (j210 26), (j210 27), (j210 28), (j210 29), (j210 30), (j210 31), .slice (some ⟨b62, 0, none⟩) out211.length ((light11.length : Int)).toNat], []⟩) (by kernel_rfl) ?_
            refine wpList_nil ?_
            refine hK219 _ _ ?_
            refine wp_ret ?_
            refine hret _ _ ?_
            refine ends_still (v := Value.tuple #[.slice (some ⟨b62, 0, none⟩) out211.length ((light11.length : Int)).toNat, .int .i64 0]) (by kernel_rfl) (by kernel_rfl) ?_
            have HS236 := HS209.u1
            have HS237 := HS236.drop
            injection h with h
            injection h with h0_ h
            subst h0_ h
            exact ⟨f206, (some ⟨b62, 0, none⟩), (((light11.length : Int)).toNat), s212, rfl, (L29.trans (L51.trans L207)), HS237, HO213⟩
          clear h; have h := hv215; clear hv215
          refine loopK (fun n_ a_ w_ => ∃ (f144 : FM) (s150 : Seg) (out149 : List Int) (x153 : Int) (j148 : Nat → Value), FM.le f50 f144 ∧ St t w_ f144 (s150 :: [(b18, .cells #[.int .i64 s1.W, .int .i64 s1.H, .slice A2 s1.Bias.length c3, .slice A5 s1.Dark.length c6, .slice A8 s1.Flat.length c9, .int .i64 s1.Full, .int .i64 s1.Gain, .int .i64 s1.Noise] 64 (0, 0))] :: H) ∧ Own (tInt .i64) 52 f144 (some ⟨b62, 0, none⟩) ((light11.length : Int)).toNat s150 out149 ∧ out149.length = (List.replicate ((light11.length : Int)).toNat (0 : Int)).length ∧ sensor_Expect.l0 k light11 s1 beats15 n_ out149 x153 = some o140 ∧ a_ = ⟨#[.agg #[.int .i64 s1.W, .int .i64 s1.H, .slice A2 s1.Bias.length c3, .slice A5 s1.Dark.length c6, .slice A8 s1.Flat.length c9, .int .i64 s1.Full, .int .i64 s1.Gain, .int .i64 s1.Noise], .slice A12 light11.length c13, .int .i64 beats15, .pointer (some ⟨b18, 0, none⟩), undef, undef, .slice none 0 0, .int .i64 0, .int .i64 vt26, .slice (some ⟨b62, 0, none⟩) out149.length ((light11.length : Int)).toNat, (j148 0), (j148 1), (j148 2), (j148 3), .agg #[.int .i64 s1.W, .int .i64 s1.H, .slice A2 s1.Bias.length c3, .slice A5 s1.Dark.length c6, .slice A8 s1.Flat.length c9, .int .i64 s1.Full, .int .i64 s1.Gain, .int .i64 s1.Noise], .slice A12 light11.length c13, .int .i64 (light11.length : Int), .int .i64 vt26, .int .i64 vt26, .bool false, undef, .int .i64 beats15, .bool false, .bool false, .int .i64 beats15, .bool false, .bool false, .bool false, .slice A12 light11.length c13, .bool false, .bool false, .slice A12 light11.length c13, .int .i64 (light11.length : Int), .slice (some ⟨b62, 0, none⟩) (List.replicate ((light11.length : Int)).toNat (0 : Int)).length ((light11.length : Int)).toNat, .slice A12 light11.length c13, .int .i64 (light11.length : Int), .int .i64 x153, (j148 4), (j148 5), (j148 6), (j148 7), (j148 8), (j148 9), (j148 10), (j148 11), (j148 12), (j148 13), (j148 14), (j148 15), (j148 16), (j148 17), (j148 18), (j148 19), (j148 20), (j148 21), (j148 22), (j148 23), (j148 24), (j148 25), (j148 26), (j148 27), (j148 28), (j148 29), (j148 30), undef], []⟩) k ⟨f50, s64, (List.replicate ((light11.length : Int)).toNat (0 : Int)), 0, (fun i_ => [undef, undef, undef, undef, undef, undef, undef, undef, undef, undef, undef, undef, undef, undef, undef, undef, undef, undef, undef, undef, undef, undef, undef, undef, undef, undef, undef, undef, undef, undef, undef].getD i_ undef), (FM.le.refl _), HS65, HO66, rfl, h, (by kernel_rfl)⟩ ?_
          clear h
          rintro n143 _ W146 ⟨f144, s150, out149, x153, j148, L145, HS147, HO151, HL152, h, rfl⟩ K141 hK142
          obtain _ | n143 := n143
          · exact nomatch h
          simp only [sensor_Expect.l0] at h
          refine wp_seq_k (fun K154 hK155 => ?_)
          refine wp_region_lit ?_
          refine seqS1 (a' := ⟨#[.agg #[.int .i64 s1.W, .int .i64 s1.H, .slice A2 s1.Bias.length c3, .slice A5 s1.Dark.length c6, .slice A8 s1.Flat.length c9, .int .i64 s1.Full, .int .i64 s1.Gain, .int .i64 s1.Noise], .slice A12 light11.length c13, .int .i64 beats15, .pointer (some ⟨b18, 0, none⟩), undef, undef, .slice none 0 0, .int .i64 0, .int .i64 vt26, .slice (some ⟨b62, 0, none⟩) out149.length ((light11.length : Int)).toNat, (j148 0), (j148 1), (j148 2), (j148 3), .agg #[.int .i64 s1.W, .int .i64 s1.H, .slice A2 s1.Bias.length c3, .slice A5 s1.Dark.length c6, .slice A8 s1.Flat.length c9, .int .i64 s1.Full, .int .i64 s1.Gain, .int .i64 s1.Noise], .slice A12 light11.length c13, .int .i64 (light11.length : Int), .int .i64 vt26, .int .i64 vt26, .bool false, undef, .int .i64 beats15, .bool false, .bool false, .int .i64 beats15, .bool false, .bool false, .bool false, .slice A12 light11.length c13, .bool false, .bool false, .slice A12 light11.length c13, .int .i64 (light11.length : Int), .slice (some ⟨b62, 0, none⟩) (List.replicate ((light11.length : Int)).toNat (0 : Int)).length ((light11.length : Int)).toNat, .slice A12 light11.length c13, .int .i64 (light11.length : Int), .int .i64 x153, .bool (decide (x153 < (light11.length : Int))), (j148 5), (j148 6), (j148 7), (j148 8), (j148 9), (j148 10), (j148 11), (j148 12), (j148 13), (j148 14), (j148 15), (j148 16), (j148 17), (j148 18), (j148 19), (j148 20), (j148 21), (j148 22), (j148 23), (j148 24), (j148 25), (j148 26), (j148 27), (j148 28), (j148 29), (j148 30), undef], []⟩) (by kernel_rfl) ?_
          refine wpList_nil ?_
          refine hK155 _ _ ?_
          refine wp_seq_k (fun K156 hK157 => ?_)
          have hq_ := ite_some h; clear h; rcases hq_ with ⟨c159, h⟩ | ⟨c159, h⟩
          · have c159 : x153 < (light11.length : Int) := c159
            refine wpRwI 37 (x := (decide (x153 < (light11.length : Int)))) (v := true) (by kernel_rfl) (decide_eq_true c159) ?_
            refine condT (by kernel_rfl) ?_
            refine wp_skip ?_
            refine hK157 _ _ ?_
            refine wp_seq_k (fun K160 hK161 => ?_)
            refine blockK (fun B162 hx163 hn164 hr165 ho166 hp167 => ?_)
            refine wp_seq_k (fun K169 hK170 => ?_)
            refine wp_region_lit ?_
            have hq_ := guard_some h; clear h; obtain ⟨c171, h⟩ := hq_
            have c171 : 0 ≤ x153 := c171
            obtain ⟨b175, of176, cs172, rfl, hr173, hc174⟩ := (HR14.mono (L29.trans (L51.trans L145))).at (i := x153) c171 c159
            obtain rfl := hr173
            refine seqL1 (by kernel_rfl) ?_
            refine seqK rfl (does_run (run_index (sz := 1) rfl Try.underlying62 (by kernel_rfl) (by kernel_rfl : _ = Value.slice (some ⟨b175, of176, none⟩) light11.length c13) (by kernel_rfl : _ = Value.int .i64 x153) c171 c159 W146) ?_)
            refine seqK rfl (does_run (run_load rfl Try.underlying52 rfl (by kernel_rfl : _ = Value.pointer (some ⟨b175, of176 + (x153 : Int).toNat * 1, none⟩)) ((hc174 (FM.le.refl _) HS147) 0 (by decide))) ?_)
            refine seqS2 (a' := ⟨#[.agg #[.int .i64 s1.W, .int .i64 s1.H, .slice A2 s1.Bias.length c3, .slice A5 s1.Dark.length c6, .slice A8 s1.Flat.length c9, .int .i64 s1.Full, .int .i64 s1.Gain, .int .i64 s1.Noise], .slice (some ⟨b175, of176, none⟩) light11.length c13, .int .i64 beats15, .pointer (some ⟨b18, 0, none⟩), undef, undef, .slice none 0 0, .int .i64 0, .int .i64 vt26, .slice (some ⟨b62, 0, none⟩) out149.length ((light11.length : Int)).toNat, .int .i64 x153, .int .i64 (rd light11 x153), (j148 2), (j148 3), .agg #[.int .i64 s1.W, .int .i64 s1.H, .slice A2 s1.Bias.length c3, .slice A5 s1.Dark.length c6, .slice A8 s1.Flat.length c9, .int .i64 s1.Full, .int .i64 s1.Gain, .int .i64 s1.Noise], .slice (some ⟨b175, of176, none⟩) light11.length c13, .int .i64 (light11.length : Int), .int .i64 vt26, .int .i64 vt26, .bool false, undef, .int .i64 beats15, .bool false, .bool false, .int .i64 beats15, .bool false, .bool false, .bool false, .slice (some ⟨b175, of176, none⟩) light11.length c13, .bool false, .bool false, .slice (some ⟨b175, of176, none⟩) light11.length c13, .int .i64 (light11.length : Int), .slice (some ⟨b62, 0, none⟩) (List.replicate ((light11.length : Int)).toNat (0 : Int)).length ((light11.length : Int)).toNat, .slice (some ⟨b175, of176, none⟩) light11.length c13, .int .i64 (light11.length : Int), .int .i64 x153, .bool true, .int .i64 x153, .pointer (some ⟨b175, of176 + (x153 : Int).toNat * 1, none⟩), .int .i64 (rd light11 x153), (j148 8), (j148 9), (j148 10), (j148 11), (j148 12), (j148 13), (j148 14), (j148 15), (j148 16), (j148 17), (j148 18), (j148 19), (j148 20), (j148 21), (j148 22), (j148 23), (j148 24), (j148 25), (j148 26), (j148 27), (j148 28), (j148 29), (j148 30), undef], []⟩) (by kernel_rfl) ?_
            refine wpList_nil ?_
            refine hK170 _ _ ?_
            refine wp_seq_k (fun K177 hK178 => ?_)
            refine wp_region_lit ?_
            refine seqL2 (by kernel_rfl) ?_
            refine seqK rfl (does_run (run_load rfl Try.underlying22 rfl (by kernel_rfl : _ = Value.pointer (some ⟨b18, 4, none⟩)) (HS147.u1.cell 4)) ?_)
            have hq_ := guard_some h; clear h; obtain ⟨c179, h⟩ := hq_
            have c179 : x153 < (s1.Flat.length : Int) := c179
            obtain ⟨b183, of184, cs180, rfl, hr181, hc182⟩ := (HR10.mono (L29.trans (L51.trans L145))).at (i := x153) c171 c179
            obtain rfl := hr181
            refine seqL1 (by kernel_rfl) ?_
            refine seqK rfl (does_run (run_index (sz := 1) rfl Try.underlying22 (by kernel_rfl) (by kernel_rfl : _ = Value.slice (some ⟨b183, of184, none⟩) s1.Flat.length c9) (by kernel_rfl : _ = Value.int .i64 x153) c171 c179 W146) ?_)
            refine seqK rfl (does_run (run_load rfl Try.underlying3 rfl (by kernel_rfl : _ = Value.pointer (some ⟨b183, of184 + (x153 : Int).toNat * 1, none⟩)) ((hc182 (FM.le.refl _) HS147) 0 (by decide))) ?_)
            have hq_ := bind_some h; clear h; obtain ⟨⟨vt185, vt186⟩, hc187, h⟩ := hq_
            refine seqK rfl (does_call (f := 52) (args := #[.int .i64 (rd light11 x153), .int .i64 (rd s1.Flat x153), .int .i64 4096]) (by kernel_rfl) (num_MulDiv.calls k (rd light11 x153) (rd s1.Flat x153) 4096 HS147 vt185 vt186 hc187) ?_)
            rintro _ W190 ⟨f188, rfl, L189, HS191⟩
            refine ⟨_, rfl, ?_⟩
            refine seqS5 (a' := ⟨#[.agg #[.int .i64 s1.W, .int .i64 s1.H, .slice A2 s1.Bias.length c3, .slice A5 s1.Dark.length c6, .slice (some ⟨b183, of184, none⟩) s1.Flat.length c9, .int .i64 s1.Full, .int .i64 s1.Gain, .int .i64 s1.Noise], .slice (some ⟨b175, of176, none⟩) light11.length c13, .int .i64 beats15, .pointer (some ⟨b18, 0, none⟩), undef, undef, .slice none 0 0, .int .i64 0, .int .i64 vt26, .slice (some ⟨b62, 0, none⟩) out149.length ((light11.length : Int)).toNat, .int .i64 x153, .int .i64 (rd light11 x153), .int .i64 vt185, .int .i64 vt186, .agg #[.int .i64 s1.W, .int .i64 s1.H, .slice A2 s1.Bias.length c3, .slice A5 s1.Dark.length c6, .slice (some ⟨b183, of184, none⟩) s1.Flat.length c9, .int .i64 s1.Full, .int .i64 s1.Gain, .int .i64 s1.Noise], .slice (some ⟨b175, of176, none⟩) light11.length c13, .int .i64 (light11.length : Int), .int .i64 vt26, .int .i64 vt26, .bool false, undef, .int .i64 beats15, .bool false, .bool false, .int .i64 beats15, .bool false, .bool false, .bool false, .slice (some ⟨b175, of176, none⟩) light11.length c13, .bool false, .bool false, .slice (some ⟨b175, of176, none⟩) light11.length c13, .int .i64 (light11.length : Int), .slice (some ⟨b62, 0, none⟩) (List.replicate ((light11.length : Int)).toNat (0 : Int)).length ((light11.length : Int)).toNat, .slice (some ⟨b175, of176, none⟩) light11.length c13, .int .i64 (light11.length : Int), .int .i64 x153, .bool true, .int .i64 x153, .pointer (some ⟨b175, of176 + (x153 : Int).toNat * 1, none⟩), .int .i64 (rd light11 x153), .tuple #[.int .i64 vt185, .int .i64 vt186], .int .i64 (rd light11 x153), .pointer (some ⟨b18, 4, none⟩), .slice (some ⟨b183, of184, none⟩) s1.Flat.length c9, .int .i64 x153, .pointer (some ⟨b183, of184 + (x153 : Int).toNat * 1, none⟩), .int .i64 (rd s1.Flat x153), .tuple #[.int .i64 vt185, .int .i64 vt186], .int .i64 vt185, .int .i64 vt186, (j148 18), (j148 19), (j148 20), (j148 21), (j148 22), (j148 23), (j148 24), (j148 25), (j148 26), (j148 27), (j148 28), (j148 29), (j148 30), undef], []⟩) (by kernel_rfl) ?_
            refine wpList_nil ?_
            refine hK178 _ _ ?_
            refine wp_region_lit ?_
            refine seqL4 (by kernel_rfl) ?_
            refine seqK rfl (does_run (run_load rfl Try.underlying62 rfl (by kernel_rfl : _ = Value.pointer (some ⟨b18, 3, none⟩)) (HS191.u1.cell 3)) ?_)
            have hq_ := guard_some h; clear h; obtain ⟨c192, h⟩ := hq_
            have c192 : x153 < (s1.Dark.length : Int) := c192
            obtain ⟨b196, of197, cs193, rfl, hr194, hc195⟩ := (HR7.mono (L29.trans (L51.trans (L145.trans L189)))).at (i := x153) c171 c192
            obtain rfl := hr194
            refine seqL1 (by kernel_rfl) ?_
            refine seqK rfl (does_run (run_index (sz := 1) rfl Try.underlying62 (by kernel_rfl) (by kernel_rfl : _ = Value.slice (some ⟨b196, of197, none⟩) s1.Dark.length c6) (by kernel_rfl : _ = Value.int .i64 x153) c171 c192 W190) ?_)
            refine seqK rfl (does_run (run_load rfl Try.underlying52 rfl (by kernel_rfl : _ = Value.pointer (some ⟨b196, of197 + (x153 : Int).toNat * 1, none⟩)) ((hc195 (FM.le.refl _) HS191) 0 (by decide))) ?_)
            have hq_ := guard_some h; clear h; obtain ⟨c198, h⟩ := hq_
            have c198 : x153 < (out149.length : Int) := c198
            obtain ⟨cs199, hr200, hc201⟩ := (HO151.mono L189).at' (i := x153) c171 c198
            obtain rfl := hr200
            refine seqL3 (by kernel_rfl) ?_
            refine seqK rfl (does_run (run_index (sz := 1) rfl Try.underlying62 (by kernel_rfl) (by kernel_rfl : _ = Value.slice (some ⟨b62, 0, none⟩) out149.length ((light11.length : Int)).toNat) (by kernel_rfl : _ = Value.int .i64 x153) c171 c198 W190) ?_)
            refine seqK rfl (does_put (e := (tInt .i64)) (E := 52) (vs := [.int .i64 (w64 (vt185 + (w64 ((rd s1.Dark x153) * beats15))))]) (u := w64 (vt185 + (w64 ((rd s1.Dark x153) * beats15)))) (i := x153) rfl (by kernel_rfl) (HO151.mono L189) HS191 rfl (by kernel_rfl : _ = Value.pointer (some ⟨b62, 0 + (x153 : Int).toNat * 1, none⟩)) (by kernel_rfl : _ = Value.int .i64 (w64 (vt185 + (w64 ((rd s1.Dark x153) * beats15))))) rfl rfl c171 c198 ?_)
            intro W202 s203 HS204 HO205
            refine seqRwS 9 (A := (some ⟨b62, 0, none⟩)) (m := out149.length) (n := (out149.set (x153).toNat (w64 (vt185 + (w64 ((rd s1.Dark x153) * beats15))))).length) (c := ((light11.length : Int)).toNat) (by kernel_rfl) (List.length_set).symm ?_
            refine seqRwS 51 (A := (some ⟨b62, 0, none⟩)) (m := out149.length) (n := (out149.set (x153).toNat (w64 (vt185 + (w64 ((rd s1.Dark x153) * beats15))))).length) (c := ((light11.length : Int)).toNat) (by kernel_rfl) (List.length_set).symm ?_
            refine wpList_nil ?_
            refine hn164 _ _ ?_
            refine hK161 _ _ ?_
            refine wp_region_lit ?_
            refine seqS2 (a' := ⟨#[.agg #[.int .i64 s1.W, .int .i64 s1.H, .slice A2 s1.Bias.length c3, .slice (some ⟨b196, of197, none⟩) s1.Dark.length c6, .slice (some ⟨b183, of184, none⟩) s1.Flat.length c9, .int .i64 s1.Full, .int .i64 s1.Gain, .int .i64 s1.Noise], .slice (some ⟨b175, of176, none⟩) light11.length c13, .int .i64 beats15, .pointer (some ⟨b18, 0, none⟩), undef, undef, .slice none 0 0, .int .i64 0, .int .i64 vt26, .slice (some ⟨b62, 0, none⟩) (out149.set (x153).toNat (w64 (vt185 + (w64 ((rd s1.Dark x153) * beats15))))).length ((light11.length : Int)).toNat, .int .i64 x153, .int .i64 (rd light11 x153), .int .i64 vt185, .int .i64 vt186, .agg #[.int .i64 s1.W, .int .i64 s1.H, .slice A2 s1.Bias.length c3, .slice (some ⟨b196, of197, none⟩) s1.Dark.length c6, .slice (some ⟨b183, of184, none⟩) s1.Flat.length c9, .int .i64 s1.Full, .int .i64 s1.Gain, .int .i64 s1.Noise], .slice (some ⟨b175, of176, none⟩) light11.length c13, .int .i64 (light11.length : Int), .int .i64 vt26, .int .i64 vt26, .bool false, undef, .int .i64 beats15, .bool false, .bool false, .int .i64 beats15, .bool false, .bool false, .bool false, .slice (some ⟨b175, of176, none⟩) light11.length c13, .bool false, .bool false, .slice (some ⟨b175, of176, none⟩) light11.length c13, .int .i64 (light11.length : Int), .slice (some ⟨b62, 0, none⟩) (List.replicate ((light11.length : Int)).toNat (0 : Int)).length ((light11.length : Int)).toNat, .slice (some ⟨b175, of176, none⟩) light11.length c13, .int .i64 (light11.length : Int), .int .i64 (w64 (x153 + 1)), .bool true, .int .i64 x153, .pointer (some ⟨b175, of176 + (x153 : Int).toNat * 1, none⟩), .int .i64 (rd light11 x153), .tuple #[.int .i64 vt185, .int .i64 vt186], .int .i64 (rd light11 x153), .pointer (some ⟨b18, 4, none⟩), .slice (some ⟨b183, of184, none⟩) s1.Flat.length c9, .int .i64 x153, .pointer (some ⟨b183, of184 + (x153 : Int).toNat * 1, none⟩), .int .i64 (rd s1.Flat x153), .tuple #[.int .i64 vt185, .int .i64 vt186], .int .i64 vt185, .int .i64 vt186, .slice (some ⟨b62, 0, none⟩) (out149.set (x153).toNat (w64 (vt185 + (w64 ((rd s1.Dark x153) * beats15))))).length ((light11.length : Int)).toNat, .int .i64 x153, .int .i64 vt185, .pointer (some ⟨b18, 3, none⟩), .slice (some ⟨b196, of197, none⟩) s1.Dark.length c6, .int .i64 x153, .pointer (some ⟨b196, of197 + (x153 : Int).toNat * 1, none⟩), .int .i64 (rd s1.Dark x153), .int .i64 beats15, .int .i64 (w64 ((rd s1.Dark x153) * beats15)), .int .i64 (w64 (vt185 + (w64 ((rd s1.Dark x153) * beats15)))), .pointer (some ⟨b62, 0 + (x153 : Int).toNat * 1, none⟩), .int .i64 (w64 (x153 + 1)), undef], []⟩) (by kernel_rfl) ?_
            refine wpList_nil ?_
            refine hK142 n143 _ _ (Nat.lt_succ_self _) ?_
            exact ⟨f188, s203, (out149.set (x153).toNat (w64 (vt185 + (w64 ((rd s1.Dark x153) * beats15))))), (w64 (x153 + 1)), (fun i_ => [Value.int .i64 x153, Value.int .i64 (rd light11 x153), Value.int .i64 vt185, Value.int .i64 vt186, Value.bool true, Value.int .i64 x153, Value.pointer (some ⟨b175, of176 + (x153 : Int).toNat * 1, none⟩), Value.int .i64 (rd light11 x153), Value.tuple #[.int .i64 vt185, .int .i64 vt186], Value.int .i64 (rd light11 x153), Value.pointer (some ⟨b18, 4, none⟩), Value.slice (some ⟨b183, of184, none⟩) s1.Flat.length c9, Value.int .i64 x153, Value.pointer (some ⟨b183, of184 + (x153 : Int).toNat * 1, none⟩), Value.int .i64 (rd s1.Flat x153), Value.tuple #[.int .i64 vt185, .int .i64 vt186], Value.int .i64 vt185, Value.int .i64 vt186, Value.slice (some ⟨b62, 0, none⟩) (out149.set (x153).toNat (w64 (vt185 + (w64 ((rd s1.Dark x153) * beats15))))).length ((light11.length : Int)).toNat, Value.int .i64 x153, Value.int .i64 vt185, Value.pointer (some ⟨b18, 3, none⟩), Value.slice (some ⟨b196, of197, none⟩) s1.Dark.length c6, Value.int .i64 x153, Value.pointer (some ⟨b196, of197 + (x153 : Int).toNat * 1, none⟩), Value.int .i64 (rd s1.Dark x153), Value.int .i64 beats15, Value.int .i64 (w64 ((rd s1.Dark x153) * beats15)), Value.int .i64 (w64 (vt185 + (w64 ((rd s1.Dark x153) * beats15)))), Value.pointer (some ⟨b62, 0 + (x153 : Int).toNat * 1, none⟩), Value.int .i64 (w64 (x153 + 1))].getD i_ undef), (L145.trans L189), HS204, HO205, (List.length_set.trans HL152), h, (by kernel_rfl)⟩
          · have c159 : ¬ (x153 < (light11.length : Int)) := c159
            refine wpRwI 37 (x := (decide (x153 < (light11.length : Int)))) (v := false) (by kernel_rfl) (decide_eq_false c159) ?_
            refine condF (by kernel_rfl) ?_
            refine wp_exit ?_
            refine hx73 _ _ ?_
            exact J216 f144 s150 out149 (fun i_ => [(j148 0), (j148 1), (j148 2), (j148 3), Value.int .i64 x153, Value.bool false, (j148 5), (j148 6), (j148 7), (j148 8), (j148 9), (j148 10), (j148 11), (j148 12), (j148 13), (j148 14), (j148 15), (j148 16), (j148 17), (j148 18), (j148 19), (j148 20), (j148 21), (j148 22), (j148 23), (j148 24), (j148 25), (j148 26), (j148 27), (j148 28), (j148 29), (j148 30)].getD i_ undef) W146 _ L145 h HS147 HO151 HL152 (by kernel_rfl)

set_option maxRecDepth 100000 in
set_option maxHeartbeats 4000000 in
theorem bound_Check_Quanta.calls (k : Nat)  (b1 : S_Bound) {t w : World} {f : FM} {H : List Seg} (HS : St t w f (H)) (r1 : Int) (h : bound_Check_Quanta k b1 = some r1) :
    Calls Try.prog 71 #[.agg #[.int .i64 b1.Lo, .int .i64 b1.Hi, .bool b1.Unknown]] w (fun e w' => ∃ (g : FM), e = .returned (Value.int .i64 r1) ∧ FM.le f g ∧ St t w' g (H)) := by
  unfold bound_Check_Quanta at h
  refine enter Try.func71 rfl (tm := #[.agg #[.int .i64 b1.Lo, .int .i64 b1.Hi, .bool b1.Unknown], undef, undef, undef, undef, undef, undef, undef, undef, undef, undef, undef, undef, undef, undef, undef, undef, undef, undef, undef, undef, undef, undef, undef, undef, undef, undef, undef, undef, undef, undef, undef, undef, undef, undef, undef, undef]) (by kernel_rfl) ?_
  intro B hret hnor hnp
  refine wp_seq_k (fun K2 hK3 => ?_)
  refine wp_region_lit ?_
  refine seqK rfl (does_box (cs := #[.int .i64 b1.Lo, .int .i64 b1.Hi, .bool b1.Unknown]) rfl (by kernel_rfl : _ = Value.agg #[.int .i64 b1.Lo, .int .i64 b1.Hi, .bool b1.Unknown]) rfl HS ?_)
  intro b4 W5 HS6
  refine seqS1 (a' := ⟨#[.agg #[.int .i64 b1.Lo, .int .i64 b1.Hi, .bool b1.Unknown], .pointer (some ⟨b4, 0, none⟩), .int .i64 0, undef, undef, undef, undef, undef, undef, undef, undef, undef, undef, undef, undef, undef, undef, undef, undef, undef, undef, undef, undef, undef, undef, undef, undef, undef, undef, undef, undef, undef, undef, undef, undef, undef, undef], []⟩) (by kernel_rfl) ?_
  refine wpList_nil ?_
  refine hK3 _ _ ?_
  refine wp_seq_k (fun K8 hK9 => ?_)
  refine blockK (fun B10 hx11 hn12 hr13 ho14 hp15 => ?_)
  refine wp_seq_k (fun K17 hK18 => ?_)
  refine wp_region_lit ?_
  refine seqL1 (by kernel_rfl) ?_
  refine seqK rfl (does_run (run_load rfl Try.underlying4 rfl (by kernel_rfl : _ = Value.pointer (some ⟨b4, 2, none⟩)) (HS6.cell 2)) ?_)
  refine seqS1 (a' := ⟨#[.agg #[.int .i64 b1.Lo, .int .i64 b1.Hi, .bool b1.Unknown], .pointer (some ⟨b4, 0, none⟩), .int .i64 0, undef, .pointer (some ⟨b4, 2, none⟩), .bool b1.Unknown, .bool b1.Unknown, undef, undef, undef, undef, undef, undef, undef, undef, undef, undef, undef, undef, undef, undef, undef, undef, undef, undef, undef, undef, undef, undef, undef, undef, undef, undef, undef, undef, undef, undef], []⟩) (by kernel_rfl) ?_
  have hq_ := ite_some h; clear h; rcases hq_ with ⟨c19, h⟩ | ⟨c19, h⟩
  · have c19 : b1.Unknown = true := c19
    refine seqRwI 5 (x := b1.Unknown) (v := true) (by kernel_rfl) c19 ?_
    refine seqRwI 6 (x := b1.Unknown) (v := true) (by kernel_rfl) c19 ?_
    refine seqL1 (by kernel_rfl) ?_
    refine seqG (by kernel_rfl) (does_run (run_load rfl Try.underlying42 rfl (by kernel_rfl : _ = Value.pointer (some ⟨b4, 0, none⟩)) (HS6.cell 0)) ?_)
    refine seqS2 (a' := ⟨#[.agg #[.int .i64 b1.Lo, .int .i64 b1.Hi, .bool b1.Unknown], .pointer (some ⟨b4, 0, none⟩), .int .i64 0, undef, .pointer (some ⟨b4, 2, none⟩), .bool true, .bool true, .pointer (some ⟨b4, 0, none⟩), .int .i64 b1.Lo, .bool (b1.Lo != 0), .bool (b1.Lo != 0), undef, undef, undef, undef, undef, undef, undef, undef, undef, undef, undef, undef, undef, undef, undef, undef, undef, undef, undef, undef, undef, undef, undef, undef, undef, undef], []⟩) (by kernel_rfl) ?_
    have hq_ := ite_some h; clear h; rcases hq_ with ⟨c20, h⟩ | ⟨c20, h⟩
    · have c20 : b1.Lo ≠ 0 := c20
      refine seqRwI 9 (x := (b1.Lo != 0)) (v := true) (by kernel_rfl) (bne_iff_ne.mpr c20) ?_
      refine seqRwI 10 (x := (b1.Lo != 0)) (v := true) (by kernel_rfl) (bne_iff_ne.mpr c20) ?_
      refine seqS6 (a' := ⟨#[.agg #[.int .i64 b1.Lo, .int .i64 b1.Hi, .bool b1.Unknown], .pointer (some ⟨b4, 0, none⟩), .int .i64 0, .bool true, .pointer (some ⟨b4, 2, none⟩), .bool true, .bool true, .pointer (some ⟨b4, 0, none⟩), .int .i64 b1.Lo, .bool true, .bool true, undef, undef, undef, .bool true, .bool true, undef, undef, undef, undef, undef, undef, undef, undef, undef, undef, undef, undef, undef, undef, undef, undef, undef, undef, undef, undef, undef], []⟩) (by kernel_rfl) ?_
      refine wpList_nil ?_
      refine hK18 _ _ ?_
      refine condT (by kernel_rfl) ?_
      refine wp_seq_k (fun K21 hK22 => ?_)
      refine wp_region_lit ?_
      refine seqS1 (a' := ⟨#[.agg #[.int .i64 b1.Lo, .int .i64 b1.Hi, .bool b1.Unknown], .pointer (some ⟨b4, 0, none⟩), .int .i64 3, .bool true, .pointer (some ⟨b4, 2, none⟩), .bool true, .bool true, .pointer (some ⟨b4, 0, none⟩), .int .i64 b1.Lo, .bool true, .bool true, undef, undef, undef, .bool true, .bool true, undef, undef, undef, undef, undef, undef, undef, undef, undef, undef, undef, undef, undef, undef, undef, undef, undef, undef, undef, undef, undef], []⟩) (by kernel_rfl) ?_
      refine wpList_nil ?_
      refine hK22 _ _ ?_
      refine wp_ret ?_
      refine hr13 _ _ ?_
      refine hret _ _ ?_
      refine ends_still (v := Value.int .i64 3) (by kernel_rfl) (by kernel_rfl) ?_
      have HS61 := HS6.drop
      injection h with h
      subst h
      exact ⟨f, rfl, FM.le.refl _, HS61⟩
    · have c20 : ¬ (b1.Lo ≠ 0) := c20
      refine seqRwI 9 (x := (b1.Lo != 0)) (v := false) (by kernel_rfl) (bne_eq_false_iff_eq.mpr (Decidable.of_not_not c20)) ?_
      refine seqRwI 10 (x := (b1.Lo != 0)) (v := false) (by kernel_rfl) (bne_eq_false_iff_eq.mpr (Decidable.of_not_not c20)) ?_
      refine seqL1 (by kernel_rfl) ?_
      refine seqG (by kernel_rfl) (does_run (run_load rfl Try.underlying42 rfl (by kernel_rfl : _ = Value.pointer (some ⟨b4, 1, none⟩)) (HS6.cell 1)) ?_)
      refine seqS4 (a' := ⟨#[.agg #[.int .i64 b1.Lo, .int .i64 b1.Hi, .bool b1.Unknown], .pointer (some ⟨b4, 0, none⟩), .int .i64 0, .bool (b1.Hi != 0), .pointer (some ⟨b4, 2, none⟩), .bool true, .bool true, .pointer (some ⟨b4, 0, none⟩), .int .i64 b1.Lo, .bool false, .bool false, .pointer (some ⟨b4, 1, none⟩), .int .i64 b1.Hi, .bool (b1.Hi != 0), .bool (b1.Hi != 0), .bool (b1.Hi != 0), undef, undef, undef, undef, undef, undef, undef, undef, undef, undef, undef, undef, undef, undef, undef, undef, undef, undef, undef, undef, undef], []⟩) (by kernel_rfl) ?_
      refine wpList_nil ?_
      refine hK18 _ _ ?_
      have hq_ := ite_some h; clear h; rcases hq_ with ⟨c24, h⟩ | ⟨c24, h⟩
      · have c24 : b1.Hi ≠ 0 := c24
        refine wpRwI 3 (x := (b1.Hi != 0)) (v := true) (by kernel_rfl) (bne_iff_ne.mpr c24) ?_
        refine wpRwI 13 (x := (b1.Hi != 0)) (v := true) (by kernel_rfl) (bne_iff_ne.mpr c24) ?_
        refine wpRwI 14 (x := (b1.Hi != 0)) (v := true) (by kernel_rfl) (bne_iff_ne.mpr c24) ?_
        refine wpRwI 15 (x := (b1.Hi != 0)) (v := true) (by kernel_rfl) (bne_iff_ne.mpr c24) ?_
        refine condT (by kernel_rfl) ?_
        refine wp_seq_k (fun K25 hK26 => ?_)
        refine wp_region_lit ?_
        refine seqS1 (a' := ⟨#[.agg #[.int .i64 b1.Lo, .int .i64 b1.Hi, .bool b1.Unknown], .pointer (some ⟨b4, 0, none⟩), .int .i64 3, .bool true, .pointer (some ⟨b4, 2, none⟩), .bool true, .bool true, .pointer (some ⟨b4, 0, none⟩), .int .i64 b1.Lo, .bool false, .bool false, .pointer (some ⟨b4, 1, none⟩), .int .i64 b1.Hi, .bool true, .bool true, .bool true, undef, undef, undef, undef, undef, undef, undef, undef, undef, undef, undef, undef, undef, undef, undef, undef, undef, undef, undef, undef, undef], []⟩) (by kernel_rfl) ?_
        refine wpList_nil ?_
        refine hK26 _ _ ?_
        refine wp_ret ?_
        refine hr13 _ _ ?_
        refine hret _ _ ?_
        refine ends_still (v := Value.int .i64 3) (by kernel_rfl) (by kernel_rfl) ?_
        have HS62 := HS6.drop
        injection h with h
        subst h
        exact ⟨f, rfl, FM.le.refl _, HS62⟩
      · have c24 : ¬ (b1.Hi ≠ 0) := c24
        refine wpRwI 3 (x := (b1.Hi != 0)) (v := false) (by kernel_rfl) (bne_eq_false_iff_eq.mpr (Decidable.of_not_not c24)) ?_
        refine wpRwI 13 (x := (b1.Hi != 0)) (v := false) (by kernel_rfl) (bne_eq_false_iff_eq.mpr (Decidable.of_not_not c24)) ?_
        refine wpRwI 14 (x := (b1.Hi != 0)) (v := false) (by kernel_rfl) (bne_eq_false_iff_eq.mpr (Decidable.of_not_not c24)) ?_
        refine wpRwI 15 (x := (b1.Hi != 0)) (v := false) (by kernel_rfl) (bne_eq_false_iff_eq.mpr (Decidable.of_not_not c24)) ?_
        refine condF (by kernel_rfl) ?_
        refine wp_seq_k (fun K27 hK28 => ?_)
        refine wp_region_lit ?_
        refine seqL1 (by kernel_rfl) ?_
        refine seqK rfl (does_run (run_load rfl Try.underlying42 rfl (by kernel_rfl : _ = Value.pointer (some ⟨b4, 0, none⟩)) (HS6.cell 0)) ?_)
        refine seqL1 (by kernel_rfl) ?_
        refine seqK rfl (does_run (run_load rfl Try.underlying42 rfl (by kernel_rfl : _ = Value.pointer (some ⟨b4, 1, none⟩)) (HS6.cell 1)) ?_)
        refine seqS3 (a' := ⟨#[.agg #[.int .i64 b1.Lo, .int .i64 b1.Hi, .bool b1.Unknown], .pointer (some ⟨b4, 0, none⟩), .int .i64 0, .bool false, .pointer (some ⟨b4, 2, none⟩), .bool true, .bool true, .pointer (some ⟨b4, 0, none⟩), .int .i64 b1.Lo, .bool false, .bool false, .pointer (some ⟨b4, 1, none⟩), .int .i64 b1.Hi, .bool false, .bool false, .bool false, undef, .pointer (some ⟨b4, 0, none⟩), .int .i64 b1.Lo, .pointer (some ⟨b4, 1, none⟩), .int .i64 b1.Hi, .int .i64 (mn b1.Lo b1.Hi), .bool (decide ((mn b1.Lo b1.Hi) < (-1152921504606846976))), .bool (decide ((mn b1.Lo b1.Hi) < (-1152921504606846976))), undef, undef, undef, undef, undef, undef, undef, undef, undef, undef, undef, undef, undef], []⟩) (by kernel_rfl) ?_
        have hq_ := ite_some h; clear h; rcases hq_ with ⟨c29, h⟩ | ⟨c29, h⟩
        · have c29 : (mn b1.Lo b1.Hi) < (-1152921504606846976) := c29
          refine seqRwI 22 (x := (decide ((mn b1.Lo b1.Hi) < (-1152921504606846976)))) (v := true) (by kernel_rfl) (decide_eq_true c29) ?_
          refine seqRwI 23 (x := (decide ((mn b1.Lo b1.Hi) < (-1152921504606846976)))) (v := true) (by kernel_rfl) (decide_eq_true c29) ?_
          refine seqS8 (a' := ⟨#[.agg #[.int .i64 b1.Lo, .int .i64 b1.Hi, .bool b1.Unknown], .pointer (some ⟨b4, 0, none⟩), .int .i64 0, .bool false, .pointer (some ⟨b4, 2, none⟩), .bool true, .bool true, .pointer (some ⟨b4, 0, none⟩), .int .i64 b1.Lo, .bool false, .bool false, .pointer (some ⟨b4, 1, none⟩), .int .i64 b1.Hi, .bool false, .bool false, .bool false, .bool true, .pointer (some ⟨b4, 0, none⟩), .int .i64 b1.Lo, .pointer (some ⟨b4, 1, none⟩), .int .i64 b1.Hi, .int .i64 (mn b1.Lo b1.Hi), .bool true, .bool true, undef, undef, undef, undef, undef, undef, .bool true, undef, undef, undef, undef, undef, undef], []⟩) (by kernel_rfl) ?_
          refine wpList_nil ?_
          refine hK28 _ _ ?_
          refine condT (by kernel_rfl) ?_
          refine wp_seq_k (fun K30 hK31 => ?_)
          refine wp_region_lit ?_
          refine seqS1 (a' := ⟨#[.agg #[.int .i64 b1.Lo, .int .i64 b1.Hi, .bool b1.Unknown], .pointer (some ⟨b4, 0, none⟩), .int .i64 4, .bool false, .pointer (some ⟨b4, 2, none⟩), .bool true, .bool true, .pointer (some ⟨b4, 0, none⟩), .int .i64 b1.Lo, .bool false, .bool false, .pointer (some ⟨b4, 1, none⟩), .int .i64 b1.Hi, .bool false, .bool false, .bool false, .bool true, .pointer (some ⟨b4, 0, none⟩), .int .i64 b1.Lo, .pointer (some ⟨b4, 1, none⟩), .int .i64 b1.Hi, .int .i64 (mn b1.Lo b1.Hi), .bool true, .bool true, undef, undef, undef, undef, undef, undef, .bool true, undef, undef, undef, undef, undef, undef], []⟩) (by kernel_rfl) ?_
          refine wpList_nil ?_
          refine hK31 _ _ ?_
          refine wp_ret ?_
          refine hr13 _ _ ?_
          refine hret _ _ ?_
          refine ends_still (v := Value.int .i64 4) (by kernel_rfl) (by kernel_rfl) ?_
          have HS63 := HS6.drop
          injection h with h
          subst h
          exact ⟨f, rfl, FM.le.refl _, HS63⟩
        · have c29 : ¬ ((mn b1.Lo b1.Hi) < (-1152921504606846976)) := c29
          refine seqRwI 22 (x := (decide ((mn b1.Lo b1.Hi) < (-1152921504606846976)))) (v := false) (by kernel_rfl) (decide_eq_false c29) ?_
          refine seqRwI 23 (x := (decide ((mn b1.Lo b1.Hi) < (-1152921504606846976)))) (v := false) (by kernel_rfl) (decide_eq_false c29) ?_
          refine seqL1 (by kernel_rfl) ?_
          refine seqG (by kernel_rfl) (does_run (run_load rfl Try.underlying42 rfl (by kernel_rfl : _ = Value.pointer (some ⟨b4, 0, none⟩)) (HS6.cell 0)) ?_)
          refine seqL1 (by kernel_rfl) ?_
          refine seqG (by kernel_rfl) (does_run (run_load rfl Try.underlying42 rfl (by kernel_rfl : _ = Value.pointer (some ⟨b4, 1, none⟩)) (HS6.cell 1)) ?_)
          refine seqS4 (a' := ⟨#[.agg #[.int .i64 b1.Lo, .int .i64 b1.Hi, .bool b1.Unknown], .pointer (some ⟨b4, 0, none⟩), .int .i64 0, .bool false, .pointer (some ⟨b4, 2, none⟩), .bool true, .bool true, .pointer (some ⟨b4, 0, none⟩), .int .i64 b1.Lo, .bool false, .bool false, .pointer (some ⟨b4, 1, none⟩), .int .i64 b1.Hi, .bool false, .bool false, .bool false, .bool (decide ((mx b1.Lo b1.Hi) > 1152921504606846976)), .pointer (some ⟨b4, 0, none⟩), .int .i64 b1.Lo, .pointer (some ⟨b4, 1, none⟩), .int .i64 b1.Hi, .int .i64 (mn b1.Lo b1.Hi), .bool false, .bool false, .pointer (some ⟨b4, 0, none⟩), .int .i64 b1.Lo, .pointer (some ⟨b4, 1, none⟩), .int .i64 b1.Hi, .int .i64 (mx b1.Lo b1.Hi), .bool (decide ((mx b1.Lo b1.Hi) > 1152921504606846976)), .bool (decide ((mx b1.Lo b1.Hi) > 1152921504606846976)), undef, undef, undef, undef, undef, undef], []⟩) (by kernel_rfl) ?_
          refine wpList_nil ?_
          refine hK28 _ _ ?_
          have hq_ := ite_some h; clear h; rcases hq_ with ⟨c33, h⟩ | ⟨c33, h⟩
          · have c33 : (mx b1.Lo b1.Hi) > 1152921504606846976 := c33
            refine wpRwI 16 (x := (decide ((mx b1.Lo b1.Hi) > 1152921504606846976))) (v := true) (by kernel_rfl) (decide_eq_true c33) ?_
            refine wpRwI 29 (x := (decide ((mx b1.Lo b1.Hi) > 1152921504606846976))) (v := true) (by kernel_rfl) (decide_eq_true c33) ?_
            refine wpRwI 30 (x := (decide ((mx b1.Lo b1.Hi) > 1152921504606846976))) (v := true) (by kernel_rfl) (decide_eq_true c33) ?_
            refine condT (by kernel_rfl) ?_
            refine wp_seq_k (fun K34 hK35 => ?_)
            refine wp_region_lit ?_
            refine seqS1 (a' := ⟨#[.agg #[.int .i64 b1.Lo, .int .i64 b1.Hi, .bool b1.Unknown], .pointer (some ⟨b4, 0, none⟩), .int .i64 4, .bool false, .pointer (some ⟨b4, 2, none⟩), .bool true, .bool true, .pointer (some ⟨b4, 0, none⟩), .int .i64 b1.Lo, .bool false, .bool false, .pointer (some ⟨b4, 1, none⟩), .int .i64 b1.Hi, .bool false, .bool false, .bool false, .bool true, .pointer (some ⟨b4, 0, none⟩), .int .i64 b1.Lo, .pointer (some ⟨b4, 1, none⟩), .int .i64 b1.Hi, .int .i64 (mn b1.Lo b1.Hi), .bool false, .bool false, .pointer (some ⟨b4, 0, none⟩), .int .i64 b1.Lo, .pointer (some ⟨b4, 1, none⟩), .int .i64 b1.Hi, .int .i64 (mx b1.Lo b1.Hi), .bool true, .bool true, undef, undef, undef, undef, undef, undef], []⟩) (by kernel_rfl) ?_
            refine wpList_nil ?_
            refine hK35 _ _ ?_
            refine wp_ret ?_
            refine hr13 _ _ ?_
            refine hret _ _ ?_
            refine ends_still (v := Value.int .i64 4) (by kernel_rfl) (by kernel_rfl) ?_
            have HS64 := HS6.drop
            injection h with h
            subst h
            exact ⟨f, rfl, FM.le.refl _, HS64⟩
          · have c33 : ¬ ((mx b1.Lo b1.Hi) > 1152921504606846976) := c33
            refine wpRwI 16 (x := (decide ((mx b1.Lo b1.Hi) > 1152921504606846976))) (v := false) (by kernel_rfl) (decide_eq_false c33) ?_
            refine wpRwI 29 (x := (decide ((mx b1.Lo b1.Hi) > 1152921504606846976))) (v := false) (by kernel_rfl) (decide_eq_false c33) ?_
            refine wpRwI 30 (x := (decide ((mx b1.Lo b1.Hi) > 1152921504606846976))) (v := false) (by kernel_rfl) (decide_eq_false c33) ?_
            refine condF (by kernel_rfl) ?_
            refine wp_seq_k (fun K36 hK37 => ?_)
            refine wp_region_lit ?_
            refine seqL1 (by kernel_rfl) ?_
            refine seqK rfl (does_run (run_load rfl Try.underlying42 rfl (by kernel_rfl : _ = Value.pointer (some ⟨b4, 0, none⟩)) (HS6.cell 0)) ?_)
            refine seqL1 (by kernel_rfl) ?_
            refine seqK rfl (does_run (run_load rfl Try.underlying42 rfl (by kernel_rfl : _ = Value.pointer (some ⟨b4, 1, none⟩)) (HS6.cell 1)) ?_)
            refine seqS2 (a' := ⟨#[.agg #[.int .i64 b1.Lo, .int .i64 b1.Hi, .bool b1.Unknown], .pointer (some ⟨b4, 0, none⟩), .int .i64 0, .bool false, .pointer (some ⟨b4, 2, none⟩), .bool true, .bool true, .pointer (some ⟨b4, 0, none⟩), .int .i64 b1.Lo, .bool false, .bool false, .pointer (some ⟨b4, 1, none⟩), .int .i64 b1.Hi, .bool false, .bool false, .bool false, .bool false, .pointer (some ⟨b4, 0, none⟩), .int .i64 b1.Lo, .pointer (some ⟨b4, 1, none⟩), .int .i64 b1.Hi, .int .i64 (mn b1.Lo b1.Hi), .bool false, .bool false, .pointer (some ⟨b4, 0, none⟩), .int .i64 b1.Lo, .pointer (some ⟨b4, 1, none⟩), .int .i64 b1.Hi, .int .i64 (mx b1.Lo b1.Hi), .bool false, .bool false, .bool (decide (b1.Lo > b1.Hi)), .pointer (some ⟨b4, 0, none⟩), .int .i64 b1.Lo, .pointer (some ⟨b4, 1, none⟩), .int .i64 b1.Hi, .bool (decide (b1.Lo > b1.Hi))], []⟩) (by kernel_rfl) ?_
            refine wpList_nil ?_
            refine hK37 _ _ ?_
            have hq_ := ite_some h; clear h; rcases hq_ with ⟨c39, h⟩ | ⟨c39, h⟩
            · have c39 : b1.Lo > b1.Hi := c39
              refine wpRwI 31 (x := (decide (b1.Lo > b1.Hi))) (v := true) (by kernel_rfl) (decide_eq_true c39) ?_
              refine wpRwI 36 (x := (decide (b1.Lo > b1.Hi))) (v := true) (by kernel_rfl) (decide_eq_true c39) ?_
              refine condT (by kernel_rfl) ?_
              refine wp_seq_k (fun K40 hK41 => ?_)
              refine wp_region_lit ?_
              refine seqS1 (a' := ⟨#[.agg #[.int .i64 b1.Lo, .int .i64 b1.Hi, .bool b1.Unknown], .pointer (some ⟨b4, 0, none⟩), .int .i64 11, .bool false, .pointer (some ⟨b4, 2, none⟩), .bool true, .bool true, .pointer (some ⟨b4, 0, none⟩), .int .i64 b1.Lo, .bool false, .bool false, .pointer (some ⟨b4, 1, none⟩), .int .i64 b1.Hi, .bool false, .bool false, .bool false, .bool false, .pointer (some ⟨b4, 0, none⟩), .int .i64 b1.Lo, .pointer (some ⟨b4, 1, none⟩), .int .i64 b1.Hi, .int .i64 (mn b1.Lo b1.Hi), .bool false, .bool false, .pointer (some ⟨b4, 0, none⟩), .int .i64 b1.Lo, .pointer (some ⟨b4, 1, none⟩), .int .i64 b1.Hi, .int .i64 (mx b1.Lo b1.Hi), .bool false, .bool false, .bool true, .pointer (some ⟨b4, 0, none⟩), .int .i64 b1.Lo, .pointer (some ⟨b4, 1, none⟩), .int .i64 b1.Hi, .bool true], []⟩) (by kernel_rfl) ?_
              refine wpList_nil ?_
              refine hK41 _ _ ?_
              refine wp_ret ?_
              refine hr13 _ _ ?_
              refine hret _ _ ?_
              refine ends_still (v := Value.int .i64 11) (by kernel_rfl) (by kernel_rfl) ?_
              have HS65 := HS6.drop
              injection h with h
              subst h
              exact ⟨f, rfl, FM.le.refl _, HS65⟩
            · have c39 : ¬ (b1.Lo > b1.Hi) := c39
              refine wpRwI 31 (x := (decide (b1.Lo > b1.Hi))) (v := false) (by kernel_rfl) (decide_eq_false c39) ?_
              refine wpRwI 36 (x := (decide (b1.Lo > b1.Hi))) (v := false) (by kernel_rfl) (decide_eq_false c39) ?_
              refine condF (by kernel_rfl) ?_
              refine wp_skip ?_
              refine hn12 _ _ ?_
              refine hK9 _ _ ?_
              refine wp_seq_k (fun K57 hK58 => ?_)
              refine wp_region_lit ?_
              refine seqS1 (a' := ⟨#[.agg #[.int .i64 b1.Lo, .int .i64 b1.Hi, .bool b1.Unknown], .pointer (some ⟨b4, 0, none⟩), .int .i64 0, .bool false, .pointer (some ⟨b4, 2, none⟩), .bool true, .bool true, .pointer (some ⟨b4, 0, none⟩), .int .i64 b1.Lo, .bool false, .bool false, .pointer (some ⟨b4, 1, none⟩), .int .i64 b1.Hi, .bool false, .bool false, .bool false, .bool false, .pointer (some ⟨b4, 0, none⟩), .int .i64 b1.Lo, .pointer (some ⟨b4, 1, none⟩), .int .i64 b1.Hi, .int .i64 (mn b1.Lo b1.Hi), .bool false, .bool false, .pointer (some ⟨b4, 0, none⟩), .int .i64 b1.Lo, .pointer (some ⟨b4, 1, none⟩), .int .i64 b1.Hi, .int .i64 (mx b1.Lo b1.Hi), .bool false, .bool false, .bool false, .pointer (some ⟨b4, 0, none⟩), .int .i64 b1.Lo, .pointer (some ⟨b4, 1, none⟩), .int .i64 b1.Hi, .bool false], []⟩) (by kernel_rfl) ?_
              refine wpList_nil ?_
              refine hK58 _ _ ?_
              refine wp_ret ?_
              refine hret _ _ ?_
              refine ends_still (v := Value.int .i64 0) (by kernel_rfl) (by kernel_rfl) ?_
              have HS69 := HS6.drop
              injection h with h
              subst h
              exact ⟨f, rfl, FM.le.refl _, HS69⟩
  · have c19 : ¬ (b1.Unknown = true) := c19
    refine seqRwI 5 (x := b1.Unknown) (v := false) (by kernel_rfl) (Bool.eq_false_iff.mpr c19) ?_
    refine seqRwI 6 (x := b1.Unknown) (v := false) (by kernel_rfl) (Bool.eq_false_iff.mpr c19) ?_
    refine seqS10 (a' := ⟨#[.agg #[.int .i64 b1.Lo, .int .i64 b1.Hi, .bool b1.Unknown], .pointer (some ⟨b4, 0, none⟩), .int .i64 0, .bool false, .pointer (some ⟨b4, 2, none⟩), .bool false, .bool false, undef, undef, undef, undef, undef, undef, undef, undef, .bool false, undef, undef, undef, undef, undef, undef, undef, undef, undef, undef, undef, undef, undef, undef, undef, undef, undef, undef, undef, undef, undef], []⟩) (by kernel_rfl) ?_
    refine wpList_nil ?_
    refine hK18 _ _ ?_
    refine condF (by kernel_rfl) ?_
    refine wp_seq_k (fun K42 hK43 => ?_)
    refine wp_region_lit ?_
    refine seqL1 (by kernel_rfl) ?_
    refine seqK rfl (does_run (run_load rfl Try.underlying42 rfl (by kernel_rfl : _ = Value.pointer (some ⟨b4, 0, none⟩)) (HS6.cell 0)) ?_)
    refine seqL1 (by kernel_rfl) ?_
    refine seqK rfl (does_run (run_load rfl Try.underlying42 rfl (by kernel_rfl : _ = Value.pointer (some ⟨b4, 1, none⟩)) (HS6.cell 1)) ?_)
    refine seqS3 (a' := ⟨#[.agg #[.int .i64 b1.Lo, .int .i64 b1.Hi, .bool b1.Unknown], .pointer (some ⟨b4, 0, none⟩), .int .i64 0, .bool false, .pointer (some ⟨b4, 2, none⟩), .bool false, .bool false, undef, undef, undef, undef, undef, undef, undef, undef, .bool false, undef, .pointer (some ⟨b4, 0, none⟩), .int .i64 b1.Lo, .pointer (some ⟨b4, 1, none⟩), .int .i64 b1.Hi, .int .i64 (mn b1.Lo b1.Hi), .bool (decide ((mn b1.Lo b1.Hi) < (-1152921504606846976))), .bool (decide ((mn b1.Lo b1.Hi) < (-1152921504606846976))), undef, undef, undef, undef, undef, undef, undef, undef, undef, undef, undef, undef, undef], []⟩) (by kernel_rfl) ?_
    have hq_ := ite_some h; clear h; rcases hq_ with ⟨c44, h⟩ | ⟨c44, h⟩
    · have c44 : (mn b1.Lo b1.Hi) < (-1152921504606846976) := c44
      refine seqRwI 22 (x := (decide ((mn b1.Lo b1.Hi) < (-1152921504606846976)))) (v := true) (by kernel_rfl) (decide_eq_true c44) ?_
      refine seqRwI 23 (x := (decide ((mn b1.Lo b1.Hi) < (-1152921504606846976)))) (v := true) (by kernel_rfl) (decide_eq_true c44) ?_
      refine seqS8 (a' := ⟨#[.agg #[.int .i64 b1.Lo, .int .i64 b1.Hi, .bool b1.Unknown], .pointer (some ⟨b4, 0, none⟩), .int .i64 0, .bool false, .pointer (some ⟨b4, 2, none⟩), .bool false, .bool false, undef, undef, undef, undef, undef, undef, undef, undef, .bool false, .bool true, .pointer (some ⟨b4, 0, none⟩), .int .i64 b1.Lo, .pointer (some ⟨b4, 1, none⟩), .int .i64 b1.Hi, .int .i64 (mn b1.Lo b1.Hi), .bool true, .bool true, undef, undef, undef, undef, undef, undef, .bool true, undef, undef, undef, undef, undef, undef], []⟩) (by kernel_rfl) ?_
      refine wpList_nil ?_
      refine hK43 _ _ ?_
      refine condT (by kernel_rfl) ?_
      refine wp_seq_k (fun K45 hK46 => ?_)
      refine wp_region_lit ?_
      refine seqS1 (a' := ⟨#[.agg #[.int .i64 b1.Lo, .int .i64 b1.Hi, .bool b1.Unknown], .pointer (some ⟨b4, 0, none⟩), .int .i64 4, .bool false, .pointer (some ⟨b4, 2, none⟩), .bool false, .bool false, undef, undef, undef, undef, undef, undef, undef, undef, .bool false, .bool true, .pointer (some ⟨b4, 0, none⟩), .int .i64 b1.Lo, .pointer (some ⟨b4, 1, none⟩), .int .i64 b1.Hi, .int .i64 (mn b1.Lo b1.Hi), .bool true, .bool true, undef, undef, undef, undef, undef, undef, .bool true, undef, undef, undef, undef, undef, undef], []⟩) (by kernel_rfl) ?_
      refine wpList_nil ?_
      refine hK46 _ _ ?_
      refine wp_ret ?_
      refine hr13 _ _ ?_
      refine hret _ _ ?_
      refine ends_still (v := Value.int .i64 4) (by kernel_rfl) (by kernel_rfl) ?_
      have HS66 := HS6.drop
      injection h with h
      subst h
      exact ⟨f, rfl, FM.le.refl _, HS66⟩
    · have c44 : ¬ ((mn b1.Lo b1.Hi) < (-1152921504606846976)) := c44
      refine seqRwI 22 (x := (decide ((mn b1.Lo b1.Hi) < (-1152921504606846976)))) (v := false) (by kernel_rfl) (decide_eq_false c44) ?_
      refine seqRwI 23 (x := (decide ((mn b1.Lo b1.Hi) < (-1152921504606846976)))) (v := false) (by kernel_rfl) (decide_eq_false c44) ?_
      refine seqL1 (by kernel_rfl) ?_
      refine seqG (by kernel_rfl) (does_run (run_load rfl Try.underlying42 rfl (by kernel_rfl : _ = Value.pointer (some ⟨b4, 0, none⟩)) (HS6.cell 0)) ?_)
      refine seqL1 (by kernel_rfl) ?_
      refine seqG (by kernel_rfl) (does_run (run_load rfl Try.underlying42 rfl (by kernel_rfl : _ = Value.pointer (some ⟨b4, 1, none⟩)) (HS6.cell 1)) ?_)
      refine seqS4 (a' := ⟨#[.agg #[.int .i64 b1.Lo, .int .i64 b1.Hi, .bool b1.Unknown], .pointer (some ⟨b4, 0, none⟩), .int .i64 0, .bool false, .pointer (some ⟨b4, 2, none⟩), .bool false, .bool false, undef, undef, undef, undef, undef, undef, undef, undef, .bool false, .bool (decide ((mx b1.Lo b1.Hi) > 1152921504606846976)), .pointer (some ⟨b4, 0, none⟩), .int .i64 b1.Lo, .pointer (some ⟨b4, 1, none⟩), .int .i64 b1.Hi, .int .i64 (mn b1.Lo b1.Hi), .bool false, .bool false, .pointer (some ⟨b4, 0, none⟩), .int .i64 b1.Lo, .pointer (some ⟨b4, 1, none⟩), .int .i64 b1.Hi, .int .i64 (mx b1.Lo b1.Hi), .bool (decide ((mx b1.Lo b1.Hi) > 1152921504606846976)), .bool (decide ((mx b1.Lo b1.Hi) > 1152921504606846976)), undef, undef, undef, undef, undef, undef], []⟩) (by kernel_rfl) ?_
      refine wpList_nil ?_
      refine hK43 _ _ ?_
      have hq_ := ite_some h; clear h; rcases hq_ with ⟨c48, h⟩ | ⟨c48, h⟩
      · have c48 : (mx b1.Lo b1.Hi) > 1152921504606846976 := c48
        refine wpRwI 16 (x := (decide ((mx b1.Lo b1.Hi) > 1152921504606846976))) (v := true) (by kernel_rfl) (decide_eq_true c48) ?_
        refine wpRwI 29 (x := (decide ((mx b1.Lo b1.Hi) > 1152921504606846976))) (v := true) (by kernel_rfl) (decide_eq_true c48) ?_
        refine wpRwI 30 (x := (decide ((mx b1.Lo b1.Hi) > 1152921504606846976))) (v := true) (by kernel_rfl) (decide_eq_true c48) ?_
        refine condT (by kernel_rfl) ?_
        refine wp_seq_k (fun K49 hK50 => ?_)
        refine wp_region_lit ?_
        refine seqS1 (a' := ⟨#[.agg #[.int .i64 b1.Lo, .int .i64 b1.Hi, .bool b1.Unknown], .pointer (some ⟨b4, 0, none⟩), .int .i64 4, .bool false, .pointer (some ⟨b4, 2, none⟩), .bool false, .bool false, undef, undef, undef, undef, undef, undef, undef, undef, .bool false, .bool true, .pointer (some ⟨b4, 0, none⟩), .int .i64 b1.Lo, .pointer (some ⟨b4, 1, none⟩), .int .i64 b1.Hi, .int .i64 (mn b1.Lo b1.Hi), .bool false, .bool false, .pointer (some ⟨b4, 0, none⟩), .int .i64 b1.Lo, .pointer (some ⟨b4, 1, none⟩), .int .i64 b1.Hi, .int .i64 (mx b1.Lo b1.Hi), .bool true, .bool true, undef, undef, undef, undef, undef, undef], []⟩) (by kernel_rfl) ?_
        refine wpList_nil ?_
        refine hK50 _ _ ?_
        refine wp_ret ?_
        refine hr13 _ _ ?_
        refine hret _ _ ?_
        refine ends_still (v := Value.int .i64 4) (by kernel_rfl) (by kernel_rfl) ?_
        have HS67 := HS6.drop
        injection h with h
        subst h
        exact ⟨f, rfl, FM.le.refl _, HS67⟩
      · have c48 : ¬ ((mx b1.Lo b1.Hi) > 1152921504606846976) := c48
        refine wpRwI 16 (x := (decide ((mx b1.Lo b1.Hi) > 1152921504606846976))) (v := false) (by kernel_rfl) (decide_eq_false c48) ?_
        refine wpRwI 29 (x := (decide ((mx b1.Lo b1.Hi) > 1152921504606846976))) (v := false) (by kernel_rfl) (decide_eq_false c48) ?_
        refine wpRwI 30 (x := (decide ((mx b1.Lo b1.Hi) > 1152921504606846976))) (v := false) (by kernel_rfl) (decide_eq_false c48) ?_
        refine condF (by kernel_rfl) ?_
        refine wp_seq_k (fun K51 hK52 => ?_)
        refine wp_region_lit ?_
        refine seqL1 (by kernel_rfl) ?_
        refine seqK rfl (does_run (run_load rfl Try.underlying42 rfl (by kernel_rfl : _ = Value.pointer (some ⟨b4, 0, none⟩)) (HS6.cell 0)) ?_)
        refine seqL1 (by kernel_rfl) ?_
        refine seqK rfl (does_run (run_load rfl Try.underlying42 rfl (by kernel_rfl : _ = Value.pointer (some ⟨b4, 1, none⟩)) (HS6.cell 1)) ?_)
        refine seqS2 (a' := ⟨#[.agg #[.int .i64 b1.Lo, .int .i64 b1.Hi, .bool b1.Unknown], .pointer (some ⟨b4, 0, none⟩), .int .i64 0, .bool false, .pointer (some ⟨b4, 2, none⟩), .bool false, .bool false, undef, undef, undef, undef, undef, undef, undef, undef, .bool false, .bool false, .pointer (some ⟨b4, 0, none⟩), .int .i64 b1.Lo, .pointer (some ⟨b4, 1, none⟩), .int .i64 b1.Hi, .int .i64 (mn b1.Lo b1.Hi), .bool false, .bool false, .pointer (some ⟨b4, 0, none⟩), .int .i64 b1.Lo, .pointer (some ⟨b4, 1, none⟩), .int .i64 b1.Hi, .int .i64 (mx b1.Lo b1.Hi), .bool false, .bool false, .bool (decide (b1.Lo > b1.Hi)), .pointer (some ⟨b4, 0, none⟩), .int .i64 b1.Lo, .pointer (some ⟨b4, 1, none⟩), .int .i64 b1.Hi, .bool (decide (b1.Lo > b1.Hi))], []⟩) (by kernel_rfl) ?_
        refine wpList_nil ?_
        refine hK52 _ _ ?_
        have hq_ := ite_some h; clear h; rcases hq_ with ⟨c54, h⟩ | ⟨c54, h⟩
        · have c54 : b1.Lo > b1.Hi := c54
          refine wpRwI 31 (x := (decide (b1.Lo > b1.Hi))) (v := true) (by kernel_rfl) (decide_eq_true c54) ?_
          refine wpRwI 36 (x := (decide (b1.Lo > b1.Hi))) (v := true) (by kernel_rfl) (decide_eq_true c54) ?_
          refine condT (by kernel_rfl) ?_
          refine wp_seq_k (fun K55 hK56 => ?_)
          refine wp_region_lit ?_
          refine seqS1 (a' := ⟨#[.agg #[.int .i64 b1.Lo, .int .i64 b1.Hi, .bool b1.Unknown], .pointer (some ⟨b4, 0, none⟩), .int .i64 11, .bool false, .pointer (some ⟨b4, 2, none⟩), .bool false, .bool false, undef, undef, undef, undef, undef, undef, undef, undef, .bool false, .bool false, .pointer (some ⟨b4, 0, none⟩), .int .i64 b1.Lo, .pointer (some ⟨b4, 1, none⟩), .int .i64 b1.Hi, .int .i64 (mn b1.Lo b1.Hi), .bool false, .bool false, .pointer (some ⟨b4, 0, none⟩), .int .i64 b1.Lo, .pointer (some ⟨b4, 1, none⟩), .int .i64 b1.Hi, .int .i64 (mx b1.Lo b1.Hi), .bool false, .bool false, .bool true, .pointer (some ⟨b4, 0, none⟩), .int .i64 b1.Lo, .pointer (some ⟨b4, 1, none⟩), .int .i64 b1.Hi, .bool true], []⟩) (by kernel_rfl) ?_
          refine wpList_nil ?_
          refine hK56 _ _ ?_
          refine wp_ret ?_
          refine hr13 _ _ ?_
          refine hret _ _ ?_
          refine ends_still (v := Value.int .i64 11) (by kernel_rfl) (by kernel_rfl) ?_
          have HS68 := HS6.drop
          injection h with h
          subst h
          exact ⟨f, rfl, FM.le.refl _, HS68⟩
        · have c54 : ¬ (b1.Lo > b1.Hi) := c54
          refine wpRwI 31 (x := (decide (b1.Lo > b1.Hi))) (v := false) (by kernel_rfl) (decide_eq_false c54) ?_
          refine wpRwI 36 (x := (decide (b1.Lo > b1.Hi))) (v := false) (by kernel_rfl) (decide_eq_false c54) ?_
          refine condF (by kernel_rfl) ?_
          refine wp_skip ?_
          refine hn12 _ _ ?_
          refine hK9 _ _ ?_
          refine wp_seq_k (fun K59 hK60 => ?_)
          refine wp_region_lit ?_
          refine seqS1 (a' := ⟨#[.agg #[.int .i64 b1.Lo, .int .i64 b1.Hi, .bool b1.Unknown], .pointer (some ⟨b4, 0, none⟩), .int .i64 0, .bool false, .pointer (some ⟨b4, 2, none⟩), .bool false, .bool false, undef, undef, undef, undef, undef, undef, undef, undef, .bool false, .bool false, .pointer (some ⟨b4, 0, none⟩), .int .i64 b1.Lo, .pointer (some ⟨b4, 1, none⟩), .int .i64 b1.Hi, .int .i64 (mn b1.Lo b1.Hi), .bool false, .bool false, .pointer (some ⟨b4, 0, none⟩), .int .i64 b1.Lo, .pointer (some ⟨b4, 1, none⟩), .int .i64 b1.Hi, .int .i64 (mx b1.Lo b1.Hi), .bool false, .bool false, .bool false, .pointer (some ⟨b4, 0, none⟩), .int .i64 b1.Lo, .pointer (some ⟨b4, 1, none⟩), .int .i64 b1.Hi, .bool false], []⟩) (by kernel_rfl) ?_
          refine wpList_nil ?_
          refine hK60 _ _ ?_
          refine wp_ret ?_
          refine hret _ _ ?_
          refine ends_still (v := Value.int .i64 0) (by kernel_rfl) (by kernel_rfl) ?_
          have HS70 := HS6.drop
          injection h with h
          subst h
          exact ⟨f, rfl, FM.le.refl _, HS70⟩

set_option maxRecDepth 100000 in
set_option maxHeartbeats 4000000 in
theorem bound_None_Quanta.calls (k : Nat)   {t w : World} {f : FM} {H : List Seg} (HS : St t w f (H)) (r1 : S_Bound) (h : bound_None_Quanta k = some r1) :
    Calls Try.prog 32 #[] w (fun e w' => ∃ (g : FM), e = .returned (Value.agg #[.int .i64 r1.Lo, .int .i64 r1.Hi, .bool r1.Unknown]) ∧ FM.le f g ∧ St t w' g (H)) := by
  unfold bound_None_Quanta at h
  refine enter Try.func32 rfl (tm := #[undef, undef]) (by kernel_rfl) ?_
  intro B hret hnor hnp
  refine wp_seq_k (fun K1 hK2 => ?_)
  refine wp_region_lit ?_
  refine seqK rfl (does_alloc (z := Value.agg #[.int .i64 0, .int .i64 0, .bool false]) (cs := #[.int .i64 0, .int .i64 0, .bool false]) rfl (by kernel_rfl) rfl HS ?_)
  intro b3 W4 HS5
  refine wpList_nil ?_
  refine hK2 _ _ ?_
  refine wp_seq_k (fun K7 hK8 => ?_)
  refine wp_region_lit ?_
  refine seqL1 (by kernel_rfl) ?_
  refine seqK rfl (does_store (n := 3) (vs := [.int .i64 0, .int .i64 0, .bool true]) (cs' := #[.int .i64 0, .int .i64 0, .bool true]) rfl (by kernel_rfl) (by kernel_rfl : _ = Value.pointer (some ⟨b3, 0, none⟩)) (by kernel_rfl : _ = Value.agg #[.int .i64 0, .int .i64 0, .bool true]) rfl rfl (by intro u_ hu_; simp only [List.mem_cons, List.not_mem_nil, or_false] at hu_; rcases hu_ with rfl | rfl | rfl <;> rfl) HS5 (Nat.le_of_ble_eq_true rfl) (by kernel_rfl) ?_)
  intro W9 HS10
  refine wpList_nil ?_
  refine hK8 _ _ ?_
  refine wp_ret ?_
  refine hret _ _ ?_
  refine ends (v := Value.agg #[.int .i64 0, .int .i64 0, .bool true]) (results1 (q1 := .cell 0 44) (by kernel_rfl) (resN (n := 3) (cs := [.int .i64 0, .int .i64 0, .bool true]) (by kernel_rfl : _ = Value.pointer (some ⟨b3, 0, none⟩)) Try.underlying44 rfl (by kernel_rfl) rfl (HS10.cells 0 3 _ rfl))) (by kernel_rfl) ?_
  have HS11 := HS10.drop
  injection h with h
  subst h
  exact ⟨f, rfl, FM.le.refl _, HS11⟩

set_option maxRecDepth 100000 in
set_option maxHeartbeats 4000000 in
theorem bound_Norm_Quanta.calls (k : Nat)  (b1 : S_Bound) {t w : World} {f : FM} {H : List Seg} (HS : St t w f (H)) (r1 : S_Bound) (h : bound_Norm_Quanta k b1 = some r1) :
    Calls Try.prog 45 #[.agg #[.int .i64 b1.Lo, .int .i64 b1.Hi, .bool b1.Unknown]] w (fun e w' => ∃ (g : FM), e = .returned (Value.agg #[.int .i64 r1.Lo, .int .i64 r1.Hi, .bool r1.Unknown]) ∧ FM.le f g ∧ St t w' g (H)) := by
  unfold bound_Norm_Quanta at h
  refine enter Try.func45 rfl (tm := #[.agg #[.int .i64 b1.Lo, .int .i64 b1.Hi, .bool b1.Unknown], undef, undef, undef, undef, undef, undef, undef]) (by kernel_rfl) ?_
  intro B hret hnor hnp
  refine wp_seq_k (fun K2 hK3 => ?_)
  refine wp_region_lit ?_
  refine seqK rfl (does_box (cs := #[.int .i64 b1.Lo, .int .i64 b1.Hi, .bool b1.Unknown]) rfl (by kernel_rfl : _ = Value.agg #[.int .i64 b1.Lo, .int .i64 b1.Hi, .bool b1.Unknown]) rfl HS ?_)
  intro b4 W5 HS6
  refine seqK rfl (does_alloc (z := Value.agg #[.int .i64 0, .int .i64 0, .bool false]) (cs := #[.int .i64 0, .int .i64 0, .bool false]) rfl (by kernel_rfl) rfl HS6 ?_)
  intro b8 W9 HS10
  refine wpList_nil ?_
  refine hK3 _ _ ?_
  refine wp_seq_k (fun K12 hK13 => ?_)
  refine wp_seq_k (fun K14 hK15 => ?_)
  refine wp_region_lit ?_
  refine seqK rfl (does_run (run_loadN (n := 3) rfl Try.underlying44 rfl (by kernel_rfl) (by kernel_rfl : _ = Value.pointer (some ⟨b4, 0, none⟩)) (cs := [.int .i64 b1.Lo, .int .i64 b1.Hi, .bool b1.Unknown]) rfl (HS10.u1.cells 0 3 _ rfl)) ?_)
  have hq_ := bind_some h; clear h; obtain ⟨vt16, hc17, h⟩ := hq_
  refine seqK rfl (does_call (f := 71) (args := #[.agg #[.int .i64 b1.Lo, .int .i64 b1.Hi, .bool b1.Unknown]]) (by kernel_rfl) (bound_Check_Quanta.calls k b1 HS10 vt16 hc17) ?_)
  rintro _ W20 ⟨f18, rfl, L19, HS21⟩
  refine ⟨_, rfl, ?_⟩
  refine seqS1 (a' := ⟨#[.agg #[.int .i64 b1.Lo, .int .i64 b1.Hi, .bool b1.Unknown], .pointer (some ⟨b4, 0, none⟩), .pointer (some ⟨b8, 0, none⟩), .agg #[.int .i64 b1.Lo, .int .i64 b1.Hi, .bool b1.Unknown], .int .i64 vt16, .bool (vt16 != 0), undef, undef], []⟩) (by kernel_rfl) ?_
  refine wpList_nil ?_
  refine hK15 _ _ ?_
  have hq_ := ite_some h; clear h; rcases hq_ with ⟨c23, h⟩ | ⟨c23, h⟩
  · have c23 : vt16 ≠ 0 := c23
    refine wpRwI 5 (x := (vt16 != 0)) (v := true) (by kernel_rfl) (bne_iff_ne.mpr c23) ?_
    refine condT (by kernel_rfl) ?_
    refine wp_seq_k (fun K24 hK25 => ?_)
    refine wp_region_lit ?_
    have hq_ := bind_some h; clear h; obtain ⟨vt26, hc27, h⟩ := hq_
    refine seqK rfl (does_call (f := 32) (args := #[]) (by kernel_rfl) (bound_None_Quanta.calls k  HS21 vt26 hc27) ?_)
    rintro _ W30 ⟨f28, rfl, L29, HS31⟩
    refine ⟨_, rfl, ?_⟩
    refine seqK rfl (does_store (n := 3) (vs := [.int .i64 vt26.Lo, .int .i64 vt26.Hi, .bool vt26.Unknown]) (cs' := #[.int .i64 vt26.Lo, .int .i64 vt26.Hi, .bool vt26.Unknown]) rfl (by kernel_rfl) (by kernel_rfl : _ = Value.pointer (some ⟨b8, 0, none⟩)) (by kernel_rfl : _ = Value.agg #[.int .i64 vt26.Lo, .int .i64 vt26.Hi, .bool vt26.Unknown]) rfl rfl (by intro u_ hu_; simp only [List.mem_cons, List.not_mem_nil, or_false] at hu_; rcases hu_ with rfl | rfl | rfl <;> rfl) HS31 (Nat.le_of_ble_eq_true rfl) (by kernel_rfl) ?_)
    intro W32 HS33
    refine wpList_nil ?_
    refine hK25 _ _ ?_
    refine wp_ret ?_
    refine hret _ _ ?_
    refine ends (v := Value.agg #[.int .i64 vt26.Lo, .int .i64 vt26.Hi, .bool vt26.Unknown]) (results1 (q1 := .cell 2 44) (by kernel_rfl) (resN (n := 3) (cs := [.int .i64 vt26.Lo, .int .i64 vt26.Hi, .bool vt26.Unknown]) (by kernel_rfl : _ = Value.pointer (some ⟨b8, 0, none⟩)) Try.underlying44 rfl (by kernel_rfl) rfl (HS33.cells 0 3 _ rfl))) (by kernel_rfl) ?_
    have HS38 := HS33.drop
    have HS39 := HS38.drop
    injection h with h
    subst h
    exact ⟨f28, rfl, (L19.trans L29), HS39⟩
  · have c23 : ¬ (vt16 ≠ 0) := c23
    refine wpRwI 5 (x := (vt16 != 0)) (v := false) (by kernel_rfl) (bne_eq_false_iff_eq.mpr (Decidable.of_not_not c23)) ?_
    refine condF (by kernel_rfl) ?_
    refine wp_skip ?_
    refine hK13 _ _ ?_
    refine wp_seq_k (fun K34 hK35 => ?_)
    refine wp_region_lit ?_
    refine seqK rfl (does_run (run_loadN (n := 3) rfl Try.underlying44 rfl (by kernel_rfl) (by kernel_rfl : _ = Value.pointer (some ⟨b4, 0, none⟩)) (cs := [.int .i64 b1.Lo, .int .i64 b1.Hi, .bool b1.Unknown]) rfl (HS21.u1.cells 0 3 _ rfl)) ?_)
    refine seqK rfl (does_store (n := 3) (vs := [.int .i64 b1.Lo, .int .i64 b1.Hi, .bool b1.Unknown]) (cs' := #[.int .i64 b1.Lo, .int .i64 b1.Hi, .bool b1.Unknown]) rfl (by kernel_rfl) (by kernel_rfl : _ = Value.pointer (some ⟨b8, 0, none⟩)) (by kernel_rfl : _ = Value.agg #[.int .i64 b1.Lo, .int .i64 b1.Hi, .bool b1.Unknown]) rfl rfl (by intro u_ hu_; simp only [List.mem_cons, List.not_mem_nil, or_false] at hu_; rcases hu_ with rfl | rfl | rfl <;> rfl) HS21 (Nat.le_of_ble_eq_true rfl) (by kernel_rfl) ?_)
    intro W36 HS37
    refine wpList_nil ?_
    refine hK35 _ _ ?_
    refine wp_ret ?_
    refine hret _ _ ?_
    refine ends (v := Value.agg #[.int .i64 b1.Lo, .int .i64 b1.Hi, .bool b1.Unknown]) (results1 (q1 := .cell 2 44) (by kernel_rfl) (resN (n := 3) (cs := [.int .i64 b1.Lo, .int .i64 b1.Hi, .bool b1.Unknown]) (by kernel_rfl : _ = Value.pointer (some ⟨b8, 0, none⟩)) Try.underlying44 rfl (by kernel_rfl) rfl (HS37.cells 0 3 _ rfl))) (by kernel_rfl) ?_
    have HS40 := HS37.drop
    have HS41 := HS40.drop
    injection h with h
    subst h
    exact ⟨f18, rfl, L19, HS41⟩

set_option maxRecDepth 100000 in
set_option maxHeartbeats 4000000 in
theorem bound_Of_Quanta.calls (k : Nat)  (lo1 : Int) (hi2 : Int) {t w : World} {f : FM} {H : List Seg} (HS : St t w f (H)) (r1 : S_Bound) (h : bound_Of_Quanta k lo1 hi2 = some r1) :
    Calls Try.prog 22 #[.int .i64 lo1, .int .i64 hi2] w (fun e w' => ∃ (g : FM), e = .returned (Value.agg #[.int .i64 r1.Lo, .int .i64 r1.Hi, .bool r1.Unknown]) ∧ FM.le f g ∧ St t w' g (H)) := by
  unfold bound_Of_Quanta at h
  refine enter Try.func22 rfl (tm := #[.int .i64 lo1, .int .i64 hi2, undef, undef, undef, undef, undef, undef, undef]) (by kernel_rfl) ?_
  intro B hret hnor hnp
  refine wp_seq_k (fun K3 hK4 => ?_)
  refine wp_region_lit ?_
  refine seqK rfl (does_alloc (z := Value.agg #[.int .i64 0, .int .i64 0, .bool false]) (cs := #[.int .i64 0, .int .i64 0, .bool false]) rfl (by kernel_rfl) rfl HS ?_)
  intro b5 W6 HS7
  refine wpList_nil ?_
  refine hK4 _ _ ?_
  refine wp_seq_k (fun K9 hK10 => ?_)
  refine wp_region_lit ?_
  have hq_ := bind_some h; clear h; obtain ⟨vt11, hc12, h⟩ := hq_
  refine seqL3 (by kernel_rfl) ?_
  refine seqK rfl (does_call (f := 45) (args := #[.agg #[.int .i64 lo1, .int .i64 hi2, .bool false]]) (by kernel_rfl) (bound_Norm_Quanta.calls k (⟨lo1, hi2, false⟩ : S_Bound) HS7 vt11 hc12) ?_)
  rintro _ W15 ⟨f13, rfl, L14, HS16⟩
  refine ⟨_, rfl, ?_⟩
  refine seqK rfl (does_store (n := 3) (vs := [.int .i64 vt11.Lo, .int .i64 vt11.Hi, .bool vt11.Unknown]) (cs' := #[.int .i64 vt11.Lo, .int .i64 vt11.Hi, .bool vt11.Unknown]) rfl (by kernel_rfl) (by kernel_rfl : _ = Value.pointer (some ⟨b5, 0, none⟩)) (by kernel_rfl : _ = Value.agg #[.int .i64 vt11.Lo, .int .i64 vt11.Hi, .bool vt11.Unknown]) rfl rfl (by intro u_ hu_; simp only [List.mem_cons, List.not_mem_nil, or_false] at hu_; rcases hu_ with rfl | rfl | rfl <;> rfl) HS16 (Nat.le_of_ble_eq_true rfl) (by kernel_rfl) ?_)
  intro W17 HS18
  refine wpList_nil ?_
  refine hK10 _ _ ?_
  refine wp_ret ?_
  refine hret _ _ ?_
  refine ends (v := Value.agg #[.int .i64 vt11.Lo, .int .i64 vt11.Hi, .bool vt11.Unknown]) (results1 (q1 := .cell 4 44) (by kernel_rfl) (resN (n := 3) (cs := [.int .i64 vt11.Lo, .int .i64 vt11.Hi, .bool vt11.Unknown]) (by kernel_rfl : _ = Value.pointer (some ⟨b5, 0, none⟩)) Try.underlying44 rfl (by kernel_rfl) rfl (HS18.cells 0 3 _ rfl))) (by kernel_rfl) ?_
  have HS19 := HS18.drop
  injection h with h
  subst h
  exact ⟨f13, rfl, L14, HS19⟩

set_option maxRecDepth 100000 in
set_option maxHeartbeats 4000000 in
theorem bound_Exact_Quanta.calls (k : Nat)  (v1 : Int) {t w : World} {f : FM} {H : List Seg} (HS : St t w f (H)) (r1 : S_Bound) (h : bound_Exact_Quanta k v1 = some r1) :
    Calls Try.prog 30 #[.int .i64 v1] w (fun e w' => ∃ (g : FM), e = .returned (Value.agg #[.int .i64 r1.Lo, .int .i64 r1.Hi, .bool r1.Unknown]) ∧ FM.le f g ∧ St t w' g (H)) := by
  unfold bound_Exact_Quanta at h
  refine enter Try.func30 rfl (tm := #[.int .i64 v1, undef, undef, undef, undef, undef]) (by kernel_rfl) ?_
  intro B hret hnor hnp
  refine wp_seq_k (fun K2 hK3 => ?_)
  refine wp_region_lit ?_
  refine seqK rfl (does_alloc (z := Value.agg #[.int .i64 0, .int .i64 0, .bool false]) (cs := #[.int .i64 0, .int .i64 0, .bool false]) rfl (by kernel_rfl) rfl HS ?_)
  intro b4 W5 HS6
  refine wpList_nil ?_
  refine hK3 _ _ ?_
  refine wp_seq_k (fun K8 hK9 => ?_)
  refine wp_region_lit ?_
  have hq_ := bind_some h; clear h; obtain ⟨vt10, hc11, h⟩ := hq_
  refine seqL2 (by kernel_rfl) ?_
  refine seqK rfl (does_call (f := 22) (args := #[.int .i64 v1, .int .i64 v1]) (by kernel_rfl) (bound_Of_Quanta.calls k v1 v1 HS6 vt10 hc11) ?_)
  rintro _ W14 ⟨f12, rfl, L13, HS15⟩
  refine ⟨_, rfl, ?_⟩
  refine seqK rfl (does_store (n := 3) (vs := [.int .i64 vt10.Lo, .int .i64 vt10.Hi, .bool vt10.Unknown]) (cs' := #[.int .i64 vt10.Lo, .int .i64 vt10.Hi, .bool vt10.Unknown]) rfl (by kernel_rfl) (by kernel_rfl : _ = Value.pointer (some ⟨b4, 0, none⟩)) (by kernel_rfl : _ = Value.agg #[.int .i64 vt10.Lo, .int .i64 vt10.Hi, .bool vt10.Unknown]) rfl rfl (by intro u_ hu_; simp only [List.mem_cons, List.not_mem_nil, or_false] at hu_; rcases hu_ with rfl | rfl | rfl <;> rfl) HS15 (Nat.le_of_ble_eq_true rfl) (by kernel_rfl) ?_)
  intro W16 HS17
  refine wpList_nil ?_
  refine hK9 _ _ ?_
  refine wp_ret ?_
  refine hret _ _ ?_
  refine ends (v := Value.agg #[.int .i64 vt10.Lo, .int .i64 vt10.Hi, .bool vt10.Unknown]) (results1 (q1 := .cell 2 44) (by kernel_rfl) (resN (n := 3) (cs := [.int .i64 vt10.Lo, .int .i64 vt10.Hi, .bool vt10.Unknown]) (by kernel_rfl : _ = Value.pointer (some ⟨b4, 0, none⟩)) Try.underlying44 rfl (by kernel_rfl) rfl (HS17.cells 0 3 _ rfl))) (by kernel_rfl) ?_
  have HS18 := HS17.drop
  injection h with h
  subst h
  exact ⟨f12, rfl, L13, HS18⟩

set_option maxRecDepth 100000 in
set_option maxHeartbeats 4000000 in
theorem bound_Check_Part.calls (k : Nat)  (b1 : S_Bound) {t w : World} {f : FM} {H : List Seg} (HS : St t w f (H)) (r1 : Int) (h : bound_Check_Part k b1 = some r1) :
    Calls Try.prog 83 #[.agg #[.int .i64 b1.Lo, .int .i64 b1.Hi, .bool b1.Unknown]] w (fun e w' => ∃ (g : FM), e = .returned (Value.int .i64 r1) ∧ FM.le f g ∧ St t w' g (H)) := by
  unfold bound_Check_Part at h
  refine enter Try.func83 rfl (tm := #[.agg #[.int .i64 b1.Lo, .int .i64 b1.Hi, .bool b1.Unknown], undef, undef, undef, undef, undef, undef, undef, undef, undef, undef, undef, undef, undef, undef, undef, undef, undef, undef, undef, undef, undef, undef, undef, undef, undef, undef, undef, undef, undef, undef, undef, undef, undef, undef, undef, undef]) (by kernel_rfl) ?_
  intro B hret hnor hnp
  refine wp_seq_k (fun K2 hK3 => ?_)
  refine wp_region_lit ?_
  refine seqK rfl (does_box (cs := #[.int .i64 b1.Lo, .int .i64 b1.Hi, .bool b1.Unknown]) rfl (by kernel_rfl : _ = Value.agg #[.int .i64 b1.Lo, .int .i64 b1.Hi, .bool b1.Unknown]) rfl HS ?_)
  intro b4 W5 HS6
  refine seqS1 (a' := ⟨#[.agg #[.int .i64 b1.Lo, .int .i64 b1.Hi, .bool b1.Unknown], .pointer (some ⟨b4, 0, none⟩), .int .i64 0, undef, undef, undef, undef, undef, undef, undef, undef, undef, undef, undef, undef, undef, undef, undef, undef, undef, undef, undef, undef, undef, undef, undef, undef, undef, undef, undef, undef, undef, undef, undef, undef, undef, undef], []⟩) (by kernel_rfl) ?_
  refine wpList_nil ?_
  refine hK3 _ _ ?_
  refine wp_seq_k (fun K8 hK9 => ?_)
  refine blockK (fun B10 hx11 hn12 hr13 ho14 hp15 => ?_)
  refine wp_seq_k (fun K17 hK18 => ?_)
  refine wp_region_lit ?_
  refine seqL1 (by kernel_rfl) ?_
  refine seqK rfl (does_run (run_load rfl Try.underlying4 rfl (by kernel_rfl : _ = Value.pointer (some ⟨b4, 2, none⟩)) (HS6.cell 2)) ?_)
  refine seqS1 (a' := ⟨#[.agg #[.int .i64 b1.Lo, .int .i64 b1.Hi, .bool b1.Unknown], .pointer (some ⟨b4, 0, none⟩), .int .i64 0, undef, .pointer (some ⟨b4, 2, none⟩), .bool b1.Unknown, .bool b1.Unknown, undef, undef, undef, undef, undef, undef, undef, undef, undef, undef, undef, undef, undef, undef, undef, undef, undef, undef, undef, undef, undef, undef, undef, undef, undef, undef, undef, undef, undef, undef], []⟩) (by kernel_rfl) ?_
  have hq_ := ite_some h; clear h; rcases hq_ with ⟨c19, h⟩ | ⟨c19, h⟩
  · have c19 : b1.Unknown = true := c19
    refine seqRwI 5 (x := b1.Unknown) (v := true) (by kernel_rfl) c19 ?_
    refine seqRwI 6 (x := b1.Unknown) (v := true) (by kernel_rfl) c19 ?_
    refine seqL1 (by kernel_rfl) ?_
    refine seqG (by kernel_rfl) (does_run (run_load rfl Try.underlying56 rfl (by kernel_rfl : _ = Value.pointer (some ⟨b4, 0, none⟩)) (HS6.cell 0)) ?_)
    refine seqS2 (a' := ⟨#[.agg #[.int .i64 b1.Lo, .int .i64 b1.Hi, .bool b1.Unknown], .pointer (some ⟨b4, 0, none⟩), .int .i64 0, undef, .pointer (some ⟨b4, 2, none⟩), .bool true, .bool true, .pointer (some ⟨b4, 0, none⟩), .int .i64 b1.Lo, .bool (b1.Lo != 0), .bool (b1.Lo != 0), undef, undef, undef, undef, undef, undef, undef, undef, undef, undef, undef, undef, undef, undef, undef, undef, undef, undef, undef, undef, undef, undef, undef, undef, undef, undef], []⟩) (by kernel_rfl) ?_
    have hq_ := ite_some h; clear h; rcases hq_ with ⟨c20, h⟩ | ⟨c20, h⟩
    · have c20 : b1.Lo ≠ 0 := c20
      refine seqRwI 9 (x := (b1.Lo != 0)) (v := true) (by kernel_rfl) (bne_iff_ne.mpr c20) ?_
      refine seqRwI 10 (x := (b1.Lo != 0)) (v := true) (by kernel_rfl) (bne_iff_ne.mpr c20) ?_
      refine seqS6 (a' := ⟨#[.agg #[.int .i64 b1.Lo, .int .i64 b1.Hi, .bool b1.Unknown], .pointer (some ⟨b4, 0, none⟩), .int .i64 0, .bool true, .pointer (some ⟨b4, 2, none⟩), .bool true, .bool true, .pointer (some ⟨b4, 0, none⟩), .int .i64 b1.Lo, .bool true, .bool true, undef, undef, undef, .bool true, .bool true, undef, undef, undef, undef, undef, undef, undef, undef, undef, undef, undef, undef, undef, undef, undef, undef, undef, undef, undef, undef, undef], []⟩) (by kernel_rfl) ?_
      refine wpList_nil ?_
      refine hK18 _ _ ?_
      refine condT (by kernel_rfl) ?_
      refine wp_seq_k (fun K21 hK22 => ?_)
      refine wp_region_lit ?_
      refine seqS1 (a' := ⟨#[.agg #[.int .i64 b1.Lo, .int .i64 b1.Hi, .bool b1.Unknown], .pointer (some ⟨b4, 0, none⟩), .int .i64 3, .bool true, .pointer (some ⟨b4, 2, none⟩), .bool true, .bool true, .pointer (some ⟨b4, 0, none⟩), .int .i64 b1.Lo, .bool true, .bool true, undef, undef, undef, .bool true, .bool true, undef, undef, undef, undef, undef, undef, undef, undef, undef, undef, undef, undef, undef, undef, undef, undef, undef, undef, undef, undef, undef], []⟩) (by kernel_rfl) ?_
      refine wpList_nil ?_
      refine hK22 _ _ ?_
      refine wp_ret ?_
      refine hr13 _ _ ?_
      refine hret _ _ ?_
      refine ends_still (v := Value.int .i64 3) (by kernel_rfl) (by kernel_rfl) ?_
      have HS61 := HS6.drop
      injection h with h
      subst h
      exact ⟨f, rfl, FM.le.refl _, HS61⟩
    · have c20 : ¬ (b1.Lo ≠ 0) := c20
      refine seqRwI 9 (x := (b1.Lo != 0)) (v := false) (by kernel_rfl) (bne_eq_false_iff_eq.mpr (Decidable.of_not_not c20)) ?_
      refine seqRwI 10 (x := (b1.Lo != 0)) (v := false) (by kernel_rfl) (bne_eq_false_iff_eq.mpr (Decidable.of_not_not c20)) ?_
      refine seqL1 (by kernel_rfl) ?_
      refine seqG (by kernel_rfl) (does_run (run_load rfl Try.underlying56 rfl (by kernel_rfl : _ = Value.pointer (some ⟨b4, 1, none⟩)) (HS6.cell 1)) ?_)
      refine seqS4 (a' := ⟨#[.agg #[.int .i64 b1.Lo, .int .i64 b1.Hi, .bool b1.Unknown], .pointer (some ⟨b4, 0, none⟩), .int .i64 0, .bool (b1.Hi != 0), .pointer (some ⟨b4, 2, none⟩), .bool true, .bool true, .pointer (some ⟨b4, 0, none⟩), .int .i64 b1.Lo, .bool false, .bool false, .pointer (some ⟨b4, 1, none⟩), .int .i64 b1.Hi, .bool (b1.Hi != 0), .bool (b1.Hi != 0), .bool (b1.Hi != 0), undef, undef, undef, undef, undef, undef, undef, undef, undef, undef, undef, undef, undef, undef, undef, undef, undef, undef, undef, undef, undef], []⟩) (by kernel_rfl) ?_
      refine wpList_nil ?_
      refine hK18 _ _ ?_
      have hq_ := ite_some h; clear h; rcases hq_ with ⟨c24, h⟩ | ⟨c24, h⟩
      · have c24 : b1.Hi ≠ 0 := c24
        refine wpRwI 3 (x := (b1.Hi != 0)) (v := true) (by kernel_rfl) (bne_iff_ne.mpr c24) ?_
        refine wpRwI 13 (x := (b1.Hi != 0)) (v := true) (by kernel_rfl) (bne_iff_ne.mpr c24) ?_
        refine wpRwI 14 (x := (b1.Hi != 0)) (v := true) (by kernel_rfl) (bne_iff_ne.mpr c24) ?_
        refine wpRwI 15 (x := (b1.Hi != 0)) (v := true) (by kernel_rfl) (bne_iff_ne.mpr c24) ?_
        refine condT (by kernel_rfl) ?_
        refine wp_seq_k (fun K25 hK26 => ?_)
        refine wp_region_lit ?_
        refine seqS1 (a' := ⟨#[.agg #[.int .i64 b1.Lo, .int .i64 b1.Hi, .bool b1.Unknown], .pointer (some ⟨b4, 0, none⟩), .int .i64 3, .bool true, .pointer (some ⟨b4, 2, none⟩), .bool true, .bool true, .pointer (some ⟨b4, 0, none⟩), .int .i64 b1.Lo, .bool false, .bool false, .pointer (some ⟨b4, 1, none⟩), .int .i64 b1.Hi, .bool true, .bool true, .bool true, undef, undef, undef, undef, undef, undef, undef, undef, undef, undef, undef, undef, undef, undef, undef, undef, undef, undef, undef, undef, undef], []⟩) (by kernel_rfl) ?_
        refine wpList_nil ?_
        refine hK26 _ _ ?_
        refine wp_ret ?_
        refine hr13 _ _ ?_
        refine hret _ _ ?_
        refine ends_still (v := Value.int .i64 3) (by kernel_rfl) (by kernel_rfl) ?_
        have HS62 := HS6.drop
        injection h with h
        subst h
        exact ⟨f, rfl, FM.le.refl _, HS62⟩
      · have c24 : ¬ (b1.Hi ≠ 0) := c24
        refine wpRwI 3 (x := (b1.Hi != 0)) (v := false) (by kernel_rfl) (bne_eq_false_iff_eq.mpr (Decidable.of_not_not c24)) ?_
        refine wpRwI 13 (x := (b1.Hi != 0)) (v := false) (by kernel_rfl) (bne_eq_false_iff_eq.mpr (Decidable.of_not_not c24)) ?_
        refine wpRwI 14 (x := (b1.Hi != 0)) (v := false) (by kernel_rfl) (bne_eq_false_iff_eq.mpr (Decidable.of_not_not c24)) ?_
        refine wpRwI 15 (x := (b1.Hi != 0)) (v := false) (by kernel_rfl) (bne_eq_false_iff_eq.mpr (Decidable.of_not_not c24)) ?_
        refine condF (by kernel_rfl) ?_
        refine wp_seq_k (fun K27 hK28 => ?_)
        refine wp_region_lit ?_
        refine seqL1 (by kernel_rfl) ?_
        refine seqK rfl (does_run (run_load rfl Try.underlying56 rfl (by kernel_rfl : _ = Value.pointer (some ⟨b4, 0, none⟩)) (HS6.cell 0)) ?_)
        refine seqL1 (by kernel_rfl) ?_
        refine seqK rfl (does_run (run_load rfl Try.underlying56 rfl (by kernel_rfl : _ = Value.pointer (some ⟨b4, 1, none⟩)) (HS6.cell 1)) ?_)
        refine seqS3 (a' := ⟨#[.agg #[.int .i64 b1.Lo, .int .i64 b1.Hi, .bool b1.Unknown], .pointer (some ⟨b4, 0, none⟩), .int .i64 0, .bool false, .pointer (some ⟨b4, 2, none⟩), .bool true, .bool true, .pointer (some ⟨b4, 0, none⟩), .int .i64 b1.Lo, .bool false, .bool false, .pointer (some ⟨b4, 1, none⟩), .int .i64 b1.Hi, .bool false, .bool false, .bool false, undef, .pointer (some ⟨b4, 0, none⟩), .int .i64 b1.Lo, .pointer (some ⟨b4, 1, none⟩), .int .i64 b1.Hi, .int .i64 (mn b1.Lo b1.Hi), .bool (decide ((mn b1.Lo b1.Hi) < (-1152921504606846976))), .bool (decide ((mn b1.Lo b1.Hi) < (-1152921504606846976))), undef, undef, undef, undef, undef, undef, undef, undef, undef, undef, undef, undef, undef], []⟩) (by kernel_rfl) ?_
        have hq_ := ite_some h; clear h; rcases hq_ with ⟨c29, h⟩ | ⟨c29, h⟩
        · have c29 : (mn b1.Lo b1.Hi) < (-1152921504606846976) := c29
          refine seqRwI 22 (x := (decide ((mn b1.Lo b1.Hi) < (-1152921504606846976)))) (v := true) (by kernel_rfl) (decide_eq_true c29) ?_
          refine seqRwI 23 (x := (decide ((mn b1.Lo b1.Hi) < (-1152921504606846976)))) (v := true) (by kernel_rfl) (decide_eq_true c29) ?_
          refine seqS8 (a' := ⟨#[.agg #[.int .i64 b1.Lo, .int .i64 b1.Hi, .bool b1.Unknown], .pointer (some ⟨b4, 0, none⟩), .int .i64 0, .bool false, .pointer (some ⟨b4, 2, none⟩), .bool true, .bool true, .pointer (some ⟨b4, 0, none⟩), .int .i64 b1.Lo, .bool false, .bool false, .pointer (some ⟨b4, 1, none⟩), .int .i64 b1.Hi, .bool false, .bool false, .bool false, .bool true, .pointer (some ⟨b4, 0, none⟩), .int .i64 b1.Lo, .pointer (some ⟨b4, 1, none⟩), .int .i64 b1.Hi, .int .i64 (mn b1.Lo b1.Hi), .bool true, .bool true, undef, undef, undef, undef, undef, undef, .bool true, undef, undef, undef, undef, undef, undef], []⟩) (by kernel_rfl) ?_
          refine wpList_nil ?_
          refine hK28 _ _ ?_
          refine condT (by kernel_rfl) ?_
          refine wp_seq_k (fun K30 hK31 => ?_)
          refine wp_region_lit ?_
          refine seqS1 (a' := ⟨#[.agg #[.int .i64 b1.Lo, .int .i64 b1.Hi, .bool b1.Unknown], .pointer (some ⟨b4, 0, none⟩), .int .i64 4, .bool false, .pointer (some ⟨b4, 2, none⟩), .bool true, .bool true, .pointer (some ⟨b4, 0, none⟩), .int .i64 b1.Lo, .bool false, .bool false, .pointer (some ⟨b4, 1, none⟩), .int .i64 b1.Hi, .bool false, .bool false, .bool false, .bool true, .pointer (some ⟨b4, 0, none⟩), .int .i64 b1.Lo, .pointer (some ⟨b4, 1, none⟩), .int .i64 b1.Hi, .int .i64 (mn b1.Lo b1.Hi), .bool true, .bool true, undef, undef, undef, undef, undef, undef, .bool true, undef, undef, undef, undef, undef, undef], []⟩) (by kernel_rfl) ?_
          refine wpList_nil ?_
          refine hK31 _ _ ?_
          refine wp_ret ?_
          refine hr13 _ _ ?_
          refine hret _ _ ?_
          refine ends_still (v := Value.int .i64 4) (by kernel_rfl) (by kernel_rfl) ?_
          have HS63 := HS6.drop
          injection h with h
          subst h
          exact ⟨f, rfl, FM.le.refl _, HS63⟩
        · have c29 : ¬ ((mn b1.Lo b1.Hi) < (-1152921504606846976)) := c29
          refine seqRwI 22 (x := (decide ((mn b1.Lo b1.Hi) < (-1152921504606846976)))) (v := false) (by kernel_rfl) (decide_eq_false c29) ?_
          refine seqRwI 23 (x := (decide ((mn b1.Lo b1.Hi) < (-1152921504606846976)))) (v := false) (by kernel_rfl) (decide_eq_false c29) ?_
          refine seqL1 (by kernel_rfl) ?_
          refine seqG (by kernel_rfl) (does_run (run_load rfl Try.underlying56 rfl (by kernel_rfl : _ = Value.pointer (some ⟨b4, 0, none⟩)) (HS6.cell 0)) ?_)
          refine seqL1 (by kernel_rfl) ?_
          refine seqG (by kernel_rfl) (does_run (run_load rfl Try.underlying56 rfl (by kernel_rfl : _ = Value.pointer (some ⟨b4, 1, none⟩)) (HS6.cell 1)) ?_)
          refine seqS4 (a' := ⟨#[.agg #[.int .i64 b1.Lo, .int .i64 b1.Hi, .bool b1.Unknown], .pointer (some ⟨b4, 0, none⟩), .int .i64 0, .bool false, .pointer (some ⟨b4, 2, none⟩), .bool true, .bool true, .pointer (some ⟨b4, 0, none⟩), .int .i64 b1.Lo, .bool false, .bool false, .pointer (some ⟨b4, 1, none⟩), .int .i64 b1.Hi, .bool false, .bool false, .bool false, .bool (decide ((mx b1.Lo b1.Hi) > 1152921504606846976)), .pointer (some ⟨b4, 0, none⟩), .int .i64 b1.Lo, .pointer (some ⟨b4, 1, none⟩), .int .i64 b1.Hi, .int .i64 (mn b1.Lo b1.Hi), .bool false, .bool false, .pointer (some ⟨b4, 0, none⟩), .int .i64 b1.Lo, .pointer (some ⟨b4, 1, none⟩), .int .i64 b1.Hi, .int .i64 (mx b1.Lo b1.Hi), .bool (decide ((mx b1.Lo b1.Hi) > 1152921504606846976)), .bool (decide ((mx b1.Lo b1.Hi) > 1152921504606846976)), undef, undef, undef, undef, undef, undef], []⟩) (by kernel_rfl) ?_
          refine wpList_nil ?_
          refine hK28 _ _ ?_
          have hq_ := ite_some h; clear h; rcases hq_ with ⟨c33, h⟩ | ⟨c33, h⟩
          · have c33 : (mx b1.Lo b1.Hi) > 1152921504606846976 := c33
            refine wpRwI 16 (x := (decide ((mx b1.Lo b1.Hi) > 1152921504606846976))) (v := true) (by kernel_rfl) (decide_eq_true c33) ?_
            refine wpRwI 29 (x := (decide ((mx b1.Lo b1.Hi) > 1152921504606846976))) (v := true) (by kernel_rfl) (decide_eq_true c33) ?_
            refine wpRwI 30 (x := (decide ((mx b1.Lo b1.Hi) > 1152921504606846976))) (v := true) (by kernel_rfl) (decide_eq_true c33) ?_
            refine condT (by kernel_rfl) ?_
            refine wp_seq_k (fun K34 hK35 => ?_)
            refine wp_region_lit ?_
            refine seqS1 (a' := ⟨#[.agg #[.int .i64 b1.Lo, .int .i64 b1.Hi, .bool b1.Unknown], .pointer (some ⟨b4, 0, none⟩), .int .i64 4, .bool false, .pointer (some ⟨b4, 2, none⟩), .bool true, .bool true, .pointer (some ⟨b4, 0, none⟩), .int .i64 b1.Lo, .bool false, .bool false, .pointer (some ⟨b4, 1, none⟩), .int .i64 b1.Hi, .bool false, .bool false, .bool false, .bool true, .pointer (some ⟨b4, 0, none⟩), .int .i64 b1.Lo, .pointer (some ⟨b4, 1, none⟩), .int .i64 b1.Hi, .int .i64 (mn b1.Lo b1.Hi), .bool false, .bool false, .pointer (some ⟨b4, 0, none⟩), .int .i64 b1.Lo, .pointer (some ⟨b4, 1, none⟩), .int .i64 b1.Hi, .int .i64 (mx b1.Lo b1.Hi), .bool true, .bool true, undef, undef, undef, undef, undef, undef], []⟩) (by kernel_rfl) ?_
            refine wpList_nil ?_
            refine hK35 _ _ ?_
            refine wp_ret ?_
            refine hr13 _ _ ?_
            refine hret _ _ ?_
            refine ends_still (v := Value.int .i64 4) (by kernel_rfl) (by kernel_rfl) ?_
            have HS64 := HS6.drop
            injection h with h
            subst h
            exact ⟨f, rfl, FM.le.refl _, HS64⟩
          · have c33 : ¬ ((mx b1.Lo b1.Hi) > 1152921504606846976) := c33
            refine wpRwI 16 (x := (decide ((mx b1.Lo b1.Hi) > 1152921504606846976))) (v := false) (by kernel_rfl) (decide_eq_false c33) ?_
            refine wpRwI 29 (x := (decide ((mx b1.Lo b1.Hi) > 1152921504606846976))) (v := false) (by kernel_rfl) (decide_eq_false c33) ?_
            refine wpRwI 30 (x := (decide ((mx b1.Lo b1.Hi) > 1152921504606846976))) (v := false) (by kernel_rfl) (decide_eq_false c33) ?_
            refine condF (by kernel_rfl) ?_
            refine wp_seq_k (fun K36 hK37 => ?_)
            refine wp_region_lit ?_
            refine seqL1 (by kernel_rfl) ?_
            refine seqK rfl (does_run (run_load rfl Try.underlying56 rfl (by kernel_rfl : _ = Value.pointer (some ⟨b4, 0, none⟩)) (HS6.cell 0)) ?_)
            refine seqL1 (by kernel_rfl) ?_
            refine seqK rfl (does_run (run_load rfl Try.underlying56 rfl (by kernel_rfl : _ = Value.pointer (some ⟨b4, 1, none⟩)) (HS6.cell 1)) ?_)
            refine seqS2 (a' := ⟨#[.agg #[.int .i64 b1.Lo, .int .i64 b1.Hi, .bool b1.Unknown], .pointer (some ⟨b4, 0, none⟩), .int .i64 0, .bool false, .pointer (some ⟨b4, 2, none⟩), .bool true, .bool true, .pointer (some ⟨b4, 0, none⟩), .int .i64 b1.Lo, .bool false, .bool false, .pointer (some ⟨b4, 1, none⟩), .int .i64 b1.Hi, .bool false, .bool false, .bool false, .bool false, .pointer (some ⟨b4, 0, none⟩), .int .i64 b1.Lo, .pointer (some ⟨b4, 1, none⟩), .int .i64 b1.Hi, .int .i64 (mn b1.Lo b1.Hi), .bool false, .bool false, .pointer (some ⟨b4, 0, none⟩), .int .i64 b1.Lo, .pointer (some ⟨b4, 1, none⟩), .int .i64 b1.Hi, .int .i64 (mx b1.Lo b1.Hi), .bool false, .bool false, .bool (decide (b1.Lo > b1.Hi)), .pointer (some ⟨b4, 0, none⟩), .int .i64 b1.Lo, .pointer (some ⟨b4, 1, none⟩), .int .i64 b1.Hi, .bool (decide (b1.Lo > b1.Hi))], []⟩) (by kernel_rfl) ?_
            refine wpList_nil ?_
            refine hK37 _ _ ?_
            have hq_ := ite_some h; clear h; rcases hq_ with ⟨c39, h⟩ | ⟨c39, h⟩
            · have c39 : b1.Lo > b1.Hi := c39
              refine wpRwI 31 (x := (decide (b1.Lo > b1.Hi))) (v := true) (by kernel_rfl) (decide_eq_true c39) ?_
              refine wpRwI 36 (x := (decide (b1.Lo > b1.Hi))) (v := true) (by kernel_rfl) (decide_eq_true c39) ?_
              refine condT (by kernel_rfl) ?_
              refine wp_seq_k (fun K40 hK41 => ?_)
              refine wp_region_lit ?_
              refine seqS1 (a' := ⟨#[.agg #[.int .i64 b1.Lo, .int .i64 b1.Hi, .bool b1.Unknown], .pointer (some ⟨b4, 0, none⟩), .int .i64 11, .bool false, .pointer (some ⟨b4, 2, none⟩), .bool true, .bool true, .pointer (some ⟨b4, 0, none⟩), .int .i64 b1.Lo, .bool false, .bool false, .pointer (some ⟨b4, 1, none⟩), .int .i64 b1.Hi, .bool false, .bool false, .bool false, .bool false, .pointer (some ⟨b4, 0, none⟩), .int .i64 b1.Lo, .pointer (some ⟨b4, 1, none⟩), .int .i64 b1.Hi, .int .i64 (mn b1.Lo b1.Hi), .bool false, .bool false, .pointer (some ⟨b4, 0, none⟩), .int .i64 b1.Lo, .pointer (some ⟨b4, 1, none⟩), .int .i64 b1.Hi, .int .i64 (mx b1.Lo b1.Hi), .bool false, .bool false, .bool true, .pointer (some ⟨b4, 0, none⟩), .int .i64 b1.Lo, .pointer (some ⟨b4, 1, none⟩), .int .i64 b1.Hi, .bool true], []⟩) (by kernel_rfl) ?_
              refine wpList_nil ?_
              refine hK41 _ _ ?_
              refine wp_ret ?_
              refine hr13 _ _ ?_
              refine hret _ _ ?_
              refine ends_still (v := Value.int .i64 11) (by kernel_rfl) (by kernel_rfl) ?_
              have HS65 := HS6.drop
              injection h with h
              subst h
              exact ⟨f, rfl, FM.le.refl _, HS65⟩
            · have c39 : ¬ (b1.Lo > b1.Hi) := c39
              refine wpRwI 31 (x := (decide (b1.Lo > b1.Hi))) (v := false) (by kernel_rfl) (decide_eq_false c39) ?_
              refine wpRwI 36 (x := (decide (b1.Lo > b1.Hi))) (v := false) (by kernel_rfl) (decide_eq_false c39) ?_
              refine condF (by kernel_rfl) ?_
              refine wp_skip ?_
              refine hn12 _ _ ?_
              refine hK9 _ _ ?_
              refine wp_seq_k (fun K57 hK58 => ?_)
              refine wp_region_lit ?_
              refine seqS1 (a' := ⟨#[.agg #[.int .i64 b1.Lo, .int .i64 b1.Hi, .bool b1.Unknown], .pointer (some ⟨b4, 0, none⟩), .int .i64 0, .bool false, .pointer (some ⟨b4, 2, none⟩), .bool true, .bool true, .pointer (some ⟨b4, 0, none⟩), .int .i64 b1.Lo, .bool false, .bool false, .pointer (some ⟨b4, 1, none⟩), .int .i64 b1.Hi, .bool false, .bool false, .bool false, .bool false, .pointer (some ⟨b4, 0, none⟩), .int .i64 b1.Lo, .pointer (some ⟨b4, 1, none⟩), .int .i64 b1.Hi, .int .i64 (mn b1.Lo b1.Hi), .bool false, .bool false, .pointer (some ⟨b4, 0, none⟩), .int .i64 b1.Lo, .pointer (some ⟨b4, 1, none⟩), .int .i64 b1.Hi, .int .i64 (mx b1.Lo b1.Hi), .bool false, .bool false, .bool false, .pointer (some ⟨b4, 0, none⟩), .int .i64 b1.Lo, .pointer (some ⟨b4, 1, none⟩), .int .i64 b1.Hi, .bool false], []⟩) (by kernel_rfl) ?_
              refine wpList_nil ?_
              refine hK58 _ _ ?_
              refine wp_ret ?_
              refine hret _ _ ?_
              refine ends_still (v := Value.int .i64 0) (by kernel_rfl) (by kernel_rfl) ?_
              have HS69 := HS6.drop
              injection h with h
              subst h
              exact ⟨f, rfl, FM.le.refl _, HS69⟩
  · have c19 : ¬ (b1.Unknown = true) := c19
    refine seqRwI 5 (x := b1.Unknown) (v := false) (by kernel_rfl) (Bool.eq_false_iff.mpr c19) ?_
    refine seqRwI 6 (x := b1.Unknown) (v := false) (by kernel_rfl) (Bool.eq_false_iff.mpr c19) ?_
    refine seqS10 (a' := ⟨#[.agg #[.int .i64 b1.Lo, .int .i64 b1.Hi, .bool b1.Unknown], .pointer (some ⟨b4, 0, none⟩), .int .i64 0, .bool false, .pointer (some ⟨b4, 2, none⟩), .bool false, .bool false, undef, undef, undef, undef, undef, undef, undef, undef, .bool false, undef, undef, undef, undef, undef, undef, undef, undef, undef, undef, undef, undef, undef, undef, undef, undef, undef, undef, undef, undef, undef], []⟩) (by kernel_rfl) ?_
    refine wpList_nil ?_
    refine hK18 _ _ ?_
    refine condF (by kernel_rfl) ?_
    refine wp_seq_k (fun K42 hK43 => ?_)
    refine wp_region_lit ?_
    refine seqL1 (by kernel_rfl) ?_
    refine seqK rfl (does_run (run_load rfl Try.underlying56 rfl (by kernel_rfl : _ = Value.pointer (some ⟨b4, 0, none⟩)) (HS6.cell 0)) ?_)
    refine seqL1 (by kernel_rfl) ?_
    refine seqK rfl (does_run (run_load rfl Try.underlying56 rfl (by kernel_rfl : _ = Value.pointer (some ⟨b4, 1, none⟩)) (HS6.cell 1)) ?_)
    refine seqS3 (a' := ⟨#[.agg #[.int .i64 b1.Lo, .int .i64 b1.Hi, .bool b1.Unknown], .pointer (some ⟨b4, 0, none⟩), .int .i64 0, .bool false, .pointer (some ⟨b4, 2, none⟩), .bool false, .bool false, undef, undef, undef, undef, undef, undef, undef, undef, .bool false, undef, .pointer (some ⟨b4, 0, none⟩), .int .i64 b1.Lo, .pointer (some ⟨b4, 1, none⟩), .int .i64 b1.Hi, .int .i64 (mn b1.Lo b1.Hi), .bool (decide ((mn b1.Lo b1.Hi) < (-1152921504606846976))), .bool (decide ((mn b1.Lo b1.Hi) < (-1152921504606846976))), undef, undef, undef, undef, undef, undef, undef, undef, undef, undef, undef, undef, undef], []⟩) (by kernel_rfl) ?_
    have hq_ := ite_some h; clear h; rcases hq_ with ⟨c44, h⟩ | ⟨c44, h⟩
    · have c44 : (mn b1.Lo b1.Hi) < (-1152921504606846976) := c44
      refine seqRwI 22 (x := (decide ((mn b1.Lo b1.Hi) < (-1152921504606846976)))) (v := true) (by kernel_rfl) (decide_eq_true c44) ?_
      refine seqRwI 23 (x := (decide ((mn b1.Lo b1.Hi) < (-1152921504606846976)))) (v := true) (by kernel_rfl) (decide_eq_true c44) ?_
      refine seqS8 (a' := ⟨#[.agg #[.int .i64 b1.Lo, .int .i64 b1.Hi, .bool b1.Unknown], .pointer (some ⟨b4, 0, none⟩), .int .i64 0, .bool false, .pointer (some ⟨b4, 2, none⟩), .bool false, .bool false, undef, undef, undef, undef, undef, undef, undef, undef, .bool false, .bool true, .pointer (some ⟨b4, 0, none⟩), .int .i64 b1.Lo, .pointer (some ⟨b4, 1, none⟩), .int .i64 b1.Hi, .int .i64 (mn b1.Lo b1.Hi), .bool true, .bool true, undef, undef, undef, undef, undef, undef, .bool true, undef, undef, undef, undef, undef, undef], []⟩) (by kernel_rfl) ?_
      refine wpList_nil ?_
      refine hK43 _ _ ?_
      refine condT (by kernel_rfl) ?_
      refine wp_seq_k (fun K45 hK46 => ?_)
      refine wp_region_lit ?_
      refine seqS1 (a' := ⟨#[.agg #[.int .i64 b1.Lo, .int .i64 b1.Hi, .bool b1.Unknown], .pointer (some ⟨b4, 0, none⟩), .int .i64 4, .bool false, .pointer (some ⟨b4, 2, none⟩), .bool false, .bool false, undef, undef, undef, undef, undef, undef, undef, undef, .bool false, .bool true, .pointer (some ⟨b4, 0, none⟩), .int .i64 b1.Lo, .pointer (some ⟨b4, 1, none⟩), .int .i64 b1.Hi, .int .i64 (mn b1.Lo b1.Hi), .bool true, .bool true, undef, undef, undef, undef, undef, undef, .bool true, undef, undef, undef, undef, undef, undef], []⟩) (by kernel_rfl) ?_
      refine wpList_nil ?_
      refine hK46 _ _ ?_
      refine wp_ret ?_
      refine hr13 _ _ ?_
      refine hret _ _ ?_
      refine ends_still (v := Value.int .i64 4) (by kernel_rfl) (by kernel_rfl) ?_
      have HS66 := HS6.drop
      injection h with h
      subst h
      exact ⟨f, rfl, FM.le.refl _, HS66⟩
    · have c44 : ¬ ((mn b1.Lo b1.Hi) < (-1152921504606846976)) := c44
      refine seqRwI 22 (x := (decide ((mn b1.Lo b1.Hi) < (-1152921504606846976)))) (v := false) (by kernel_rfl) (decide_eq_false c44) ?_
      refine seqRwI 23 (x := (decide ((mn b1.Lo b1.Hi) < (-1152921504606846976)))) (v := false) (by kernel_rfl) (decide_eq_false c44) ?_
      refine seqL1 (by kernel_rfl) ?_
      refine seqG (by kernel_rfl) (does_run (run_load rfl Try.underlying56 rfl (by kernel_rfl : _ = Value.pointer (some ⟨b4, 0, none⟩)) (HS6.cell 0)) ?_)
      refine seqL1 (by kernel_rfl) ?_
      refine seqG (by kernel_rfl) (does_run (run_load rfl Try.underlying56 rfl (by kernel_rfl : _ = Value.pointer (some ⟨b4, 1, none⟩)) (HS6.cell 1)) ?_)
      refine seqS4 (a' := ⟨#[.agg #[.int .i64 b1.Lo, .int .i64 b1.Hi, .bool b1.Unknown], .pointer (some ⟨b4, 0, none⟩), .int .i64 0, .bool false, .pointer (some ⟨b4, 2, none⟩), .bool false, .bool false, undef, undef, undef, undef, undef, undef, undef, undef, .bool false, .bool (decide ((mx b1.Lo b1.Hi) > 1152921504606846976)), .pointer (some ⟨b4, 0, none⟩), .int .i64 b1.Lo, .pointer (some ⟨b4, 1, none⟩), .int .i64 b1.Hi, .int .i64 (mn b1.Lo b1.Hi), .bool false, .bool false, .pointer (some ⟨b4, 0, none⟩), .int .i64 b1.Lo, .pointer (some ⟨b4, 1, none⟩), .int .i64 b1.Hi, .int .i64 (mx b1.Lo b1.Hi), .bool (decide ((mx b1.Lo b1.Hi) > 1152921504606846976)), .bool (decide ((mx b1.Lo b1.Hi) > 1152921504606846976)), undef, undef, undef, undef, undef, undef], []⟩) (by kernel_rfl) ?_
      refine wpList_nil ?_
      refine hK43 _ _ ?_
      have hq_ := ite_some h; clear h; rcases hq_ with ⟨c48, h⟩ | ⟨c48, h⟩
      · have c48 : (mx b1.Lo b1.Hi) > 1152921504606846976 := c48
        refine wpRwI 16 (x := (decide ((mx b1.Lo b1.Hi) > 1152921504606846976))) (v := true) (by kernel_rfl) (decide_eq_true c48) ?_
        refine wpRwI 29 (x := (decide ((mx b1.Lo b1.Hi) > 1152921504606846976))) (v := true) (by kernel_rfl) (decide_eq_true c48) ?_
        refine wpRwI 30 (x := (decide ((mx b1.Lo b1.Hi) > 1152921504606846976))) (v := true) (by kernel_rfl) (decide_eq_true c48) ?_
        refine condT (by kernel_rfl) ?_
        refine wp_seq_k (fun K49 hK50 => ?_)
        refine wp_region_lit ?_
        refine seqS1 (a' := ⟨#[.agg #[.int .i64 b1.Lo, .int .i64 b1.Hi, .bool b1.Unknown], .pointer (some ⟨b4, 0, none⟩), .int .i64 4, .bool false, .pointer (some ⟨b4, 2, none⟩), .bool false, .bool false, undef, undef, undef, undef, undef, undef, undef, undef, .bool false, .bool true, .pointer (some ⟨b4, 0, none⟩), .int .i64 b1.Lo, .pointer (some ⟨b4, 1, none⟩), .int .i64 b1.Hi, .int .i64 (mn b1.Lo b1.Hi), .bool false, .bool false, .pointer (some ⟨b4, 0, none⟩), .int .i64 b1.Lo, .pointer (some ⟨b4, 1, none⟩), .int .i64 b1.Hi, .int .i64 (mx b1.Lo b1.Hi), .bool true, .bool true, undef, undef, undef, undef, undef, undef], []⟩) (by kernel_rfl) ?_
        refine wpList_nil ?_
        refine hK50 _ _ ?_
        refine wp_ret ?_
        refine hr13 _ _ ?_
        refine hret _ _ ?_
        refine ends_still (v := Value.int .i64 4) (by kernel_rfl) (by kernel_rfl) ?_
        have HS67 := HS6.drop
        injection h with h
        subst h
        exact ⟨f, rfl, FM.le.refl _, HS67⟩
      · have c48 : ¬ ((mx b1.Lo b1.Hi) > 1152921504606846976) := c48
        refine wpRwI 16 (x := (decide ((mx b1.Lo b1.Hi) > 1152921504606846976))) (v := false) (by kernel_rfl) (decide_eq_false c48) ?_
        refine wpRwI 29 (x := (decide ((mx b1.Lo b1.Hi) > 1152921504606846976))) (v := false) (by kernel_rfl) (decide_eq_false c48) ?_
        refine wpRwI 30 (x := (decide ((mx b1.Lo b1.Hi) > 1152921504606846976))) (v := false) (by kernel_rfl) (decide_eq_false c48) ?_
        refine condF (by kernel_rfl) ?_
        refine wp_seq_k (fun K51 hK52 => ?_)
        refine wp_region_lit ?_
        refine seqL1 (by kernel_rfl) ?_
        refine seqK rfl (does_run (run_load rfl Try.underlying56 rfl (by kernel_rfl : _ = Value.pointer (some ⟨b4, 0, none⟩)) (HS6.cell 0)) ?_)
        refine seqL1 (by kernel_rfl) ?_
        refine seqK rfl (does_run (run_load rfl Try.underlying56 rfl (by kernel_rfl : _ = Value.pointer (some ⟨b4, 1, none⟩)) (HS6.cell 1)) ?_)
        refine seqS2 (a' := ⟨#[.agg #[.int .i64 b1.Lo, .int .i64 b1.Hi, .bool b1.Unknown], .pointer (some ⟨b4, 0, none⟩), .int .i64 0, .bool false, .pointer (some ⟨b4, 2, none⟩), .bool false, .bool false, undef, undef, undef, undef, undef, undef, undef, undef, .bool false, .bool false, .pointer (some ⟨b4, 0, none⟩), .int .i64 b1.Lo, .pointer (some ⟨b4, 1, none⟩), .int .i64 b1.Hi, .int .i64 (mn b1.Lo b1.Hi), .bool false, .bool false, .pointer (some ⟨b4, 0, none⟩), .int .i64 b1.Lo, .pointer (some ⟨b4, 1, none⟩), .int .i64 b1.Hi, .int .i64 (mx b1.Lo b1.Hi), .bool false, .bool false, .bool (decide (b1.Lo > b1.Hi)), .pointer (some ⟨b4, 0, none⟩), .int .i64 b1.Lo, .pointer (some ⟨b4, 1, none⟩), .int .i64 b1.Hi, .bool (decide (b1.Lo > b1.Hi))], []⟩) (by kernel_rfl) ?_
        refine wpList_nil ?_
        refine hK52 _ _ ?_
        have hq_ := ite_some h; clear h; rcases hq_ with ⟨c54, h⟩ | ⟨c54, h⟩
        · have c54 : b1.Lo > b1.Hi := c54
          refine wpRwI 31 (x := (decide (b1.Lo > b1.Hi))) (v := true) (by kernel_rfl) (decide_eq_true c54) ?_
          refine wpRwI 36 (x := (decide (b1.Lo > b1.Hi))) (v := true) (by kernel_rfl) (decide_eq_true c54) ?_
          refine condT (by kernel_rfl) ?_
          refine wp_seq_k (fun K55 hK56 => ?_)
          refine wp_region_lit ?_
          refine seqS1 (a' := ⟨#[.agg #[.int .i64 b1.Lo, .int .i64 b1.Hi, .bool b1.Unknown], .pointer (some ⟨b4, 0, none⟩), .int .i64 11, .bool false, .pointer (some ⟨b4, 2, none⟩), .bool false, .bool false, undef, undef, undef, undef, undef, undef, undef, undef, .bool false, .bool false, .pointer (some ⟨b4, 0, none⟩), .int .i64 b1.Lo, .pointer (some ⟨b4, 1, none⟩), .int .i64 b1.Hi, .int .i64 (mn b1.Lo b1.Hi), .bool false, .bool false, .pointer (some ⟨b4, 0, none⟩), .int .i64 b1.Lo, .pointer (some ⟨b4, 1, none⟩), .int .i64 b1.Hi, .int .i64 (mx b1.Lo b1.Hi), .bool false, .bool false, .bool true, .pointer (some ⟨b4, 0, none⟩), .int .i64 b1.Lo, .pointer (some ⟨b4, 1, none⟩), .int .i64 b1.Hi, .bool true], []⟩) (by kernel_rfl) ?_
          refine wpList_nil ?_
          refine hK56 _ _ ?_
          refine wp_ret ?_
          refine hr13 _ _ ?_
          refine hret _ _ ?_
          refine ends_still (v := Value.int .i64 11) (by kernel_rfl) (by kernel_rfl) ?_
          have HS68 := HS6.drop
          injection h with h
          subst h
          exact ⟨f, rfl, FM.le.refl _, HS68⟩
        · have c54 : ¬ (b1.Lo > b1.Hi) := c54
          refine wpRwI 31 (x := (decide (b1.Lo > b1.Hi))) (v := false) (by kernel_rfl) (decide_eq_false c54) ?_
          refine wpRwI 36 (x := (decide (b1.Lo > b1.Hi))) (v := false) (by kernel_rfl) (decide_eq_false c54) ?_
          refine condF (by kernel_rfl) ?_
          refine wp_skip ?_
          refine hn12 _ _ ?_
          refine hK9 _ _ ?_
          refine wp_seq_k (fun K59 hK60 => ?_)
          refine wp_region_lit ?_
          refine seqS1 (a' := ⟨#[.agg #[.int .i64 b1.Lo, .int .i64 b1.Hi, .bool b1.Unknown], .pointer (some ⟨b4, 0, none⟩), .int .i64 0, .bool false, .pointer (some ⟨b4, 2, none⟩), .bool false, .bool false, undef, undef, undef, undef, undef, undef, undef, undef, .bool false, .bool false, .pointer (some ⟨b4, 0, none⟩), .int .i64 b1.Lo, .pointer (some ⟨b4, 1, none⟩), .int .i64 b1.Hi, .int .i64 (mn b1.Lo b1.Hi), .bool false, .bool false, .pointer (some ⟨b4, 0, none⟩), .int .i64 b1.Lo, .pointer (some ⟨b4, 1, none⟩), .int .i64 b1.Hi, .int .i64 (mx b1.Lo b1.Hi), .bool false, .bool false, .bool false, .pointer (some ⟨b4, 0, none⟩), .int .i64 b1.Lo, .pointer (some ⟨b4, 1, none⟩), .int .i64 b1.Hi, .bool false], []⟩) (by kernel_rfl) ?_
          refine wpList_nil ?_
          refine hK60 _ _ ?_
          refine wp_ret ?_
          refine hret _ _ ?_
          refine ends_still (v := Value.int .i64 0) (by kernel_rfl) (by kernel_rfl) ?_
          have HS70 := HS6.drop
          injection h with h
          subst h
          exact ⟨f, rfl, FM.le.refl _, HS70⟩

set_option maxRecDepth 100000 in
set_option maxHeartbeats 4000000 in
theorem bound_None_Part.calls (k : Nat)   {t w : World} {f : FM} {H : List Seg} (HS : St t w f (H)) (r1 : S_Bound) (h : bound_None_Part k = some r1) :
    Calls Try.prog 84 #[] w (fun e w' => ∃ (g : FM), e = .returned (Value.agg #[.int .i64 r1.Lo, .int .i64 r1.Hi, .bool r1.Unknown]) ∧ FM.le f g ∧ St t w' g (H)) := by
  unfold bound_None_Part at h
  refine enter Try.func84 rfl (tm := #[undef, undef]) (by kernel_rfl) ?_
  intro B hret hnor hnp
  refine wp_seq_k (fun K1 hK2 => ?_)
  refine wp_region_lit ?_
  refine seqK rfl (does_alloc (z := Value.agg #[.int .i64 0, .int .i64 0, .bool false]) (cs := #[.int .i64 0, .int .i64 0, .bool false]) rfl (by kernel_rfl) rfl HS ?_)
  intro b3 W4 HS5
  refine wpList_nil ?_
  refine hK2 _ _ ?_
  refine wp_seq_k (fun K7 hK8 => ?_)
  refine wp_region_lit ?_
  refine seqL1 (by kernel_rfl) ?_
  refine seqK rfl (does_store (n := 3) (vs := [.int .i64 0, .int .i64 0, .bool true]) (cs' := #[.int .i64 0, .int .i64 0, .bool true]) rfl (by kernel_rfl) (by kernel_rfl : _ = Value.pointer (some ⟨b3, 0, none⟩)) (by kernel_rfl : _ = Value.agg #[.int .i64 0, .int .i64 0, .bool true]) rfl rfl (by intro u_ hu_; simp only [List.mem_cons, List.not_mem_nil, or_false] at hu_; rcases hu_ with rfl | rfl | rfl <;> rfl) HS5 (Nat.le_of_ble_eq_true rfl) (by kernel_rfl) ?_)
  intro W9 HS10
  refine wpList_nil ?_
  refine hK8 _ _ ?_
  refine wp_ret ?_
  refine hret _ _ ?_
  refine ends (v := Value.agg #[.int .i64 0, .int .i64 0, .bool true]) (results1 (q1 := .cell 0 58) (by kernel_rfl) (resN (n := 3) (cs := [.int .i64 0, .int .i64 0, .bool true]) (by kernel_rfl : _ = Value.pointer (some ⟨b3, 0, none⟩)) Try.underlying58 rfl (by kernel_rfl) rfl (HS10.cells 0 3 _ rfl))) (by kernel_rfl) ?_
  have HS11 := HS10.drop
  injection h with h
  subst h
  exact ⟨f, rfl, FM.le.refl _, HS11⟩

set_option maxRecDepth 100000 in
set_option maxHeartbeats 4000000 in
theorem bound_Norm_Part.calls (k : Nat)  (b1 : S_Bound) {t w : World} {f : FM} {H : List Seg} (HS : St t w f (H)) (r1 : S_Bound) (h : bound_Norm_Part k b1 = some r1) :
    Calls Try.prog 47 #[.agg #[.int .i64 b1.Lo, .int .i64 b1.Hi, .bool b1.Unknown]] w (fun e w' => ∃ (g : FM), e = .returned (Value.agg #[.int .i64 r1.Lo, .int .i64 r1.Hi, .bool r1.Unknown]) ∧ FM.le f g ∧ St t w' g (H)) := by
  unfold bound_Norm_Part at h
  refine enter Try.func47 rfl (tm := #[.agg #[.int .i64 b1.Lo, .int .i64 b1.Hi, .bool b1.Unknown], undef, undef, undef, undef, undef, undef, undef]) (by kernel_rfl) ?_
  intro B hret hnor hnp
  refine wp_seq_k (fun K2 hK3 => ?_)
  refine wp_region_lit ?_
  refine seqK rfl (does_box (cs := #[.int .i64 b1.Lo, .int .i64 b1.Hi, .bool b1.Unknown]) rfl (by kernel_rfl : _ = Value.agg #[.int .i64 b1.Lo, .int .i64 b1.Hi, .bool b1.Unknown]) rfl HS ?_)
  intro b4 W5 HS6
  refine seqK rfl (does_alloc (z := Value.agg #[.int .i64 0, .int .i64 0, .bool false]) (cs := #[.int .i64 0, .int .i64 0, .bool false]) rfl (by kernel_rfl) rfl HS6 ?_)
  intro b8 W9 HS10
  refine wpList_nil ?_
  refine hK3 _ _ ?_
  refine wp_seq_k (fun K12 hK13 => ?_)
  refine wp_seq_k (fun K14 hK15 => ?_)
  refine wp_region_lit ?_
  refine seqK rfl (does_run (run_loadN (n := 3) rfl Try.underlying58 rfl (by kernel_rfl) (by kernel_rfl : _ = Value.pointer (some ⟨b4, 0, none⟩)) (cs := [.int .i64 b1.Lo, .int .i64 b1.Hi, .bool b1.Unknown]) rfl (HS10.u1.cells 0 3 _ rfl)) ?_)
  have hq_ := bind_some h; clear h; obtain ⟨vt16, hc17, h⟩ := hq_
  refine seqK rfl (does_call (f := 83) (args := #[.agg #[.int .i64 b1.Lo, .int .i64 b1.Hi, .bool b1.Unknown]]) (by kernel_rfl) (bound_Check_Part.calls k b1 HS10 vt16 hc17) ?_)
  rintro _ W20 ⟨f18, rfl, L19, HS21⟩
  refine ⟨_, rfl, ?_⟩
  refine seqS1 (a' := ⟨#[.agg #[.int .i64 b1.Lo, .int .i64 b1.Hi, .bool b1.Unknown], .pointer (some ⟨b4, 0, none⟩), .pointer (some ⟨b8, 0, none⟩), .agg #[.int .i64 b1.Lo, .int .i64 b1.Hi, .bool b1.Unknown], .int .i64 vt16, .bool (vt16 != 0), undef, undef], []⟩) (by kernel_rfl) ?_
  refine wpList_nil ?_
  refine hK15 _ _ ?_
  have hq_ := ite_some h; clear h; rcases hq_ with ⟨c23, h⟩ | ⟨c23, h⟩
  · have c23 : vt16 ≠ 0 := c23
    refine wpRwI 5 (x := (vt16 != 0)) (v := true) (by kernel_rfl) (bne_iff_ne.mpr c23) ?_
    refine condT (by kernel_rfl) ?_
    refine wp_seq_k (fun K24 hK25 => ?_)
    refine wp_region_lit ?_
    have hq_ := bind_some h; clear h; obtain ⟨vt26, hc27, h⟩ := hq_
    refine seqK rfl (does_call (f := 84) (args := #[]) (by kernel_rfl) (bound_None_Part.calls k  HS21 vt26 hc27) ?_)
    rintro _ W30 ⟨f28, rfl, L29, HS31⟩
    refine ⟨_, rfl, ?_⟩
    refine seqK rfl (does_store (n := 3) (vs := [.int .i64 vt26.Lo, .int .i64 vt26.Hi, .bool vt26.Unknown]) (cs' := #[.int .i64 vt26.Lo, .int .i64 vt26.Hi, .bool vt26.Unknown]) rfl (by kernel_rfl) (by kernel_rfl : _ = Value.pointer (some ⟨b8, 0, none⟩)) (by kernel_rfl : _ = Value.agg #[.int .i64 vt26.Lo, .int .i64 vt26.Hi, .bool vt26.Unknown]) rfl rfl (by intro u_ hu_; simp only [List.mem_cons, List.not_mem_nil, or_false] at hu_; rcases hu_ with rfl | rfl | rfl <;> rfl) HS31 (Nat.le_of_ble_eq_true rfl) (by kernel_rfl) ?_)
    intro W32 HS33
    refine wpList_nil ?_
    refine hK25 _ _ ?_
    refine wp_ret ?_
    refine hret _ _ ?_
    refine ends (v := Value.agg #[.int .i64 vt26.Lo, .int .i64 vt26.Hi, .bool vt26.Unknown]) (results1 (q1 := .cell 2 58) (by kernel_rfl) (resN (n := 3) (cs := [.int .i64 vt26.Lo, .int .i64 vt26.Hi, .bool vt26.Unknown]) (by kernel_rfl : _ = Value.pointer (some ⟨b8, 0, none⟩)) Try.underlying58 rfl (by kernel_rfl) rfl (HS33.cells 0 3 _ rfl))) (by kernel_rfl) ?_
    have HS38 := HS33.drop
    have HS39 := HS38.drop
    injection h with h
    subst h
    exact ⟨f28, rfl, (L19.trans L29), HS39⟩
  · have c23 : ¬ (vt16 ≠ 0) := c23
    refine wpRwI 5 (x := (vt16 != 0)) (v := false) (by kernel_rfl) (bne_eq_false_iff_eq.mpr (Decidable.of_not_not c23)) ?_
    refine condF (by kernel_rfl) ?_
    refine wp_skip ?_
    refine hK13 _ _ ?_
    refine wp_seq_k (fun K34 hK35 => ?_)
    refine wp_region_lit ?_
    refine seqK rfl (does_run (run_loadN (n := 3) rfl Try.underlying58 rfl (by kernel_rfl) (by kernel_rfl : _ = Value.pointer (some ⟨b4, 0, none⟩)) (cs := [.int .i64 b1.Lo, .int .i64 b1.Hi, .bool b1.Unknown]) rfl (HS21.u1.cells 0 3 _ rfl)) ?_)
    refine seqK rfl (does_store (n := 3) (vs := [.int .i64 b1.Lo, .int .i64 b1.Hi, .bool b1.Unknown]) (cs' := #[.int .i64 b1.Lo, .int .i64 b1.Hi, .bool b1.Unknown]) rfl (by kernel_rfl) (by kernel_rfl : _ = Value.pointer (some ⟨b8, 0, none⟩)) (by kernel_rfl : _ = Value.agg #[.int .i64 b1.Lo, .int .i64 b1.Hi, .bool b1.Unknown]) rfl rfl (by intro u_ hu_; simp only [List.mem_cons, List.not_mem_nil, or_false] at hu_; rcases hu_ with rfl | rfl | rfl <;> rfl) HS21 (Nat.le_of_ble_eq_true rfl) (by kernel_rfl) ?_)
    intro W36 HS37
    refine wpList_nil ?_
    refine hK35 _ _ ?_
    refine wp_ret ?_
    refine hret _ _ ?_
    refine ends (v := Value.agg #[.int .i64 b1.Lo, .int .i64 b1.Hi, .bool b1.Unknown]) (results1 (q1 := .cell 2 58) (by kernel_rfl) (resN (n := 3) (cs := [.int .i64 b1.Lo, .int .i64 b1.Hi, .bool b1.Unknown]) (by kernel_rfl : _ = Value.pointer (some ⟨b8, 0, none⟩)) Try.underlying58 rfl (by kernel_rfl) rfl (HS37.cells 0 3 _ rfl))) (by kernel_rfl) ?_
    have HS40 := HS37.drop
    have HS41 := HS40.drop
    injection h with h
    subst h
    exact ⟨f18, rfl, L19, HS41⟩

set_option maxRecDepth 100000 in
set_option maxHeartbeats 4000000 in
theorem bound_Of_Part.calls (k : Nat)  (lo1 : Int) (hi2 : Int) {t w : World} {f : FM} {H : List Seg} (HS : St t w f (H)) (r1 : S_Bound) (h : bound_Of_Part k lo1 hi2 = some r1) :
    Calls Try.prog 24 #[.int .i64 lo1, .int .i64 hi2] w (fun e w' => ∃ (g : FM), e = .returned (Value.agg #[.int .i64 r1.Lo, .int .i64 r1.Hi, .bool r1.Unknown]) ∧ FM.le f g ∧ St t w' g (H)) := by
  unfold bound_Of_Part at h
  refine enter Try.func24 rfl (tm := #[.int .i64 lo1, .int .i64 hi2, undef, undef, undef, undef, undef, undef, undef]) (by kernel_rfl) ?_
  intro B hret hnor hnp
  refine wp_seq_k (fun K3 hK4 => ?_)
  refine wp_region_lit ?_
  refine seqK rfl (does_alloc (z := Value.agg #[.int .i64 0, .int .i64 0, .bool false]) (cs := #[.int .i64 0, .int .i64 0, .bool false]) rfl (by kernel_rfl) rfl HS ?_)
  intro b5 W6 HS7
  refine wpList_nil ?_
  refine hK4 _ _ ?_
  refine wp_seq_k (fun K9 hK10 => ?_)
  refine wp_region_lit ?_
  have hq_ := bind_some h; clear h; obtain ⟨vt11, hc12, h⟩ := hq_
  refine seqL3 (by kernel_rfl) ?_
  refine seqK rfl (does_call (f := 47) (args := #[.agg #[.int .i64 lo1, .int .i64 hi2, .bool false]]) (by kernel_rfl) (bound_Norm_Part.calls k (⟨lo1, hi2, false⟩ : S_Bound) HS7 vt11 hc12) ?_)
  rintro _ W15 ⟨f13, rfl, L14, HS16⟩
  refine ⟨_, rfl, ?_⟩
  refine seqK rfl (does_store (n := 3) (vs := [.int .i64 vt11.Lo, .int .i64 vt11.Hi, .bool vt11.Unknown]) (cs' := #[.int .i64 vt11.Lo, .int .i64 vt11.Hi, .bool vt11.Unknown]) rfl (by kernel_rfl) (by kernel_rfl : _ = Value.pointer (some ⟨b5, 0, none⟩)) (by kernel_rfl : _ = Value.agg #[.int .i64 vt11.Lo, .int .i64 vt11.Hi, .bool vt11.Unknown]) rfl rfl (by intro u_ hu_; simp only [List.mem_cons, List.not_mem_nil, or_false] at hu_; rcases hu_ with rfl | rfl | rfl <;> rfl) HS16 (Nat.le_of_ble_eq_true rfl) (by kernel_rfl) ?_)
  intro W17 HS18
  refine wpList_nil ?_
  refine hK10 _ _ ?_
  refine wp_ret ?_
  refine hret _ _ ?_
  refine ends (v := Value.agg #[.int .i64 vt11.Lo, .int .i64 vt11.Hi, .bool vt11.Unknown]) (results1 (q1 := .cell 4 58) (by kernel_rfl) (resN (n := 3) (cs := [.int .i64 vt11.Lo, .int .i64 vt11.Hi, .bool vt11.Unknown]) (by kernel_rfl : _ = Value.pointer (some ⟨b5, 0, none⟩)) Try.underlying58 rfl (by kernel_rfl) rfl (HS18.cells 0 3 _ rfl))) (by kernel_rfl) ?_
  have HS19 := HS18.drop
  injection h with h
  subst h
  exact ⟨f13, rfl, L14, HS19⟩

set_option maxRecDepth 100000 in
set_option maxHeartbeats 4000000 in
theorem bound_Exact_Part.calls (k : Nat)  (v1 : Int) {t w : World} {f : FM} {H : List Seg} (HS : St t w f (H)) (r1 : S_Bound) (h : bound_Exact_Part k v1 = some r1) :
    Calls Try.prog 54 #[.int .i64 v1] w (fun e w' => ∃ (g : FM), e = .returned (Value.agg #[.int .i64 r1.Lo, .int .i64 r1.Hi, .bool r1.Unknown]) ∧ FM.le f g ∧ St t w' g (H)) := by
  unfold bound_Exact_Part at h
  refine enter Try.func54 rfl (tm := #[.int .i64 v1, undef, undef, undef, undef, undef]) (by kernel_rfl) ?_
  intro B hret hnor hnp
  refine wp_seq_k (fun K2 hK3 => ?_)
  refine wp_region_lit ?_
  refine seqK rfl (does_alloc (z := Value.agg #[.int .i64 0, .int .i64 0, .bool false]) (cs := #[.int .i64 0, .int .i64 0, .bool false]) rfl (by kernel_rfl) rfl HS ?_)
  intro b4 W5 HS6
  refine wpList_nil ?_
  refine hK3 _ _ ?_
  refine wp_seq_k (fun K8 hK9 => ?_)
  refine wp_region_lit ?_
  have hq_ := bind_some h; clear h; obtain ⟨vt10, hc11, h⟩ := hq_
  refine seqL2 (by kernel_rfl) ?_
  refine seqK rfl (does_call (f := 24) (args := #[.int .i64 v1, .int .i64 v1]) (by kernel_rfl) (bound_Of_Part.calls k v1 v1 HS6 vt10 hc11) ?_)
  rintro _ W14 ⟨f12, rfl, L13, HS15⟩
  refine ⟨_, rfl, ?_⟩
  refine seqK rfl (does_store (n := 3) (vs := [.int .i64 vt10.Lo, .int .i64 vt10.Hi, .bool vt10.Unknown]) (cs' := #[.int .i64 vt10.Lo, .int .i64 vt10.Hi, .bool vt10.Unknown]) rfl (by kernel_rfl) (by kernel_rfl : _ = Value.pointer (some ⟨b4, 0, none⟩)) (by kernel_rfl : _ = Value.agg #[.int .i64 vt10.Lo, .int .i64 vt10.Hi, .bool vt10.Unknown]) rfl rfl (by intro u_ hu_; simp only [List.mem_cons, List.not_mem_nil, or_false] at hu_; rcases hu_ with rfl | rfl | rfl <;> rfl) HS15 (Nat.le_of_ble_eq_true rfl) (by kernel_rfl) ?_)
  intro W16 HS17
  refine wpList_nil ?_
  refine hK9 _ _ ?_
  refine wp_ret ?_
  refine hret _ _ ?_
  refine ends (v := Value.agg #[.int .i64 vt10.Lo, .int .i64 vt10.Hi, .bool vt10.Unknown]) (results1 (q1 := .cell 2 58) (by kernel_rfl) (resN (n := 3) (cs := [.int .i64 vt10.Lo, .int .i64 vt10.Hi, .bool vt10.Unknown]) (by kernel_rfl : _ = Value.pointer (some ⟨b4, 0, none⟩)) Try.underlying58 rfl (by kernel_rfl) rfl (HS17.cells 0 3 _ rfl))) (by kernel_rfl) ?_
  have HS18 := HS17.drop
  injection h with h
  subst h
  exact ⟨f12, rfl, L13, HS18⟩

set_option maxRecDepth 100000 in
set_option maxHeartbeats 4000000 in
theorem num_SqrtMul.calls (k : Nat)  (a1 : Int) (b2 : Int) {t w : World} {f : FM} {H : List Seg} (HS : St t w f (H)) (r1 : Int) (h : num_SqrtMul k a1 b2 = some r1) :
    Calls Try.prog 117 #[.int .i64 a1, .int .i64 b2] w (fun e w' => ∃ (g : FM), e = .returned (Value.int .i64 r1) ∧ FM.le f g ∧ St t w' g (H)) := by
  unfold num_SqrtMul at h
  refine enter Try.func117 rfl (tm := #[.int .i64 a1, .int .i64 b2, undef, undef, undef, undef, undef, undef, undef, undef, undef, undef, undef, undef, undef, undef, undef, undef, undef, undef, undef, undef, undef, undef, undef, undef, undef, undef, undef, undef, undef, undef, undef, undef, undef, undef, undef, undef, undef, undef, undef, undef, undef, undef, undef, undef, undef, undef, undef, undef, undef, undef, undef, undef, undef, undef, undef]) (by kernel_rfl) ?_
  intro B hret hnor hnp
  refine wp_seq_k (fun K3 hK4 => ?_)
  refine wp_region_lit ?_
  refine seqS1 (a' := ⟨#[.int .i64 a1, .int .i64 b2, undef, undef, .int .i64 0, undef, undef, undef, undef, undef, undef, undef, undef, undef, undef, undef, undef, undef, undef, undef, undef, undef, undef, undef, undef, undef, undef, undef, undef, undef, undef, undef, undef, undef, undef, undef, undef, undef, undef, undef, undef, undef, undef, undef, undef, undef, undef, undef, undef, undef, undef, undef, undef, undef, undef, undef, undef], []⟩) (by kernel_rfl) ?_
  refine wpList_nil ?_
  refine hK4 _ _ ?_
  refine wp_seq_k (fun K5 hK6 => ?_)
  refine wp_seq_k (fun K7 hK8 => ?_)
  refine wp_region_lit ?_
  refine seqS3 (a' := ⟨#[.int .i64 a1, .int .i64 b2, undef, undef, .int .i64 0, undef, undef, undef, undef, undef, undef, .int .i64 a1, .bool (decide (a1 < 0)), .bool (decide (a1 < 0)), undef, undef, undef, undef, undef, undef, undef, undef, undef, undef, undef, undef, undef, undef, undef, undef, undef, undef, undef, undef, undef, undef, undef, undef, undef, undef, undef, undef, undef, undef, undef, undef, undef, undef, undef, undef, undef, undef, undef, undef, undef, undef, undef], []⟩) (by kernel_rfl) ?_
  have hq_ := ite_some h; clear h; rcases hq_ with ⟨c9, h⟩ | ⟨c9, h⟩
  · have c9 : a1 < 0 := c9
    refine seqRwI 12 (x := (decide (a1 < 0))) (v := true) (by kernel_rfl) (decide_eq_true c9) ?_
    refine seqRwI 13 (x := (decide (a1 < 0))) (v := true) (by kernel_rfl) (decide_eq_true c9) ?_
    refine seqS3 (a' := ⟨#[.int .i64 a1, .int .i64 b2, undef, undef, .int .i64 0, undef, undef, undef, undef, undef, undef, .int .i64 a1, .bool true, .bool true, undef, undef, .bool true, undef, undef, undef, undef, undef, undef, undef, undef, undef, undef, undef, undef, undef, undef, undef, undef, undef, undef, undef, undef, undef, undef, undef, undef, undef, undef, undef, undef, undef, undef, undef, undef, undef, undef, undef, undef, undef, undef, undef, undef], []⟩) (by kernel_rfl) ?_
    refine wpList_nil ?_
    refine hK8 _ _ ?_
    refine condT (by kernel_rfl) ?_
    refine wp_seq_k (fun K10 hK11 => ?_)
    refine wp_region_lit ?_
    refine seqS1 (a' := ⟨#[.int .i64 a1, .int .i64 b2, undef, undef, .int .i64 0, undef, undef, undef, undef, undef, undef, .int .i64 a1, .bool true, .bool true, undef, undef, .bool true, undef, undef, undef, undef, undef, undef, undef, undef, undef, undef, undef, undef, undef, undef, undef, undef, undef, undef, undef, undef, undef, undef, undef, undef, undef, undef, undef, undef, undef, undef, undef, undef, undef, undef, undef, undef, undef, undef, undef, undef], []⟩) (by kernel_rfl) ?_
    refine wpList_nil ?_
    refine hK11 _ _ ?_
    refine wp_ret ?_
    refine hret _ _ ?_
    refine ends_still (v := Value.int .i64 0) (by kernel_rfl) (by kernel_rfl) ?_
    injection h with h
    subst h
    exact ⟨f, rfl, FM.le.refl _, HS⟩
  · have c9 : ¬ (a1 < 0) := c9
    refine seqRwI 12 (x := (decide (a1 < 0))) (v := false) (by kernel_rfl) (decide_eq_false c9) ?_
    refine seqRwI 13 (x := (decide (a1 < 0))) (v := false) (by kernel_rfl) (decide_eq_false c9) ?_
    refine seqS3 (a' := ⟨#[.int .i64 a1, .int .i64 b2, undef, undef, .int .i64 0, undef, undef, undef, undef, undef, undef, .int .i64 a1, .bool false, .bool false, .int .i64 b2, .bool (decide (b2 < 0)), .bool (decide (b2 < 0)), undef, undef, undef, undef, undef, undef, undef, undef, undef, undef, undef, undef, undef, undef, undef, undef, undef, undef, undef, undef, undef, undef, undef, undef, undef, undef, undef, undef, undef, undef, undef, undef, undef, undef, undef, undef, undef, undef, undef, undef], []⟩) (by kernel_rfl) ?_
    refine wpList_nil ?_
    refine hK8 _ _ ?_
    have hq_ := ite_some h; clear h; rcases hq_ with ⟨c13, h⟩ | ⟨c13, h⟩
    · have c13 : b2 < 0 := c13
      refine wpRwI 15 (x := (decide (b2 < 0))) (v := true) (by kernel_rfl) (decide_eq_true c13) ?_
      refine wpRwI 16 (x := (decide (b2 < 0))) (v := true) (by kernel_rfl) (decide_eq_true c13) ?_
      refine condT (by kernel_rfl) ?_
      refine wp_seq_k (fun K14 hK15 => ?_)
      refine wp_region_lit ?_
      refine seqS1 (a' := ⟨#[.int .i64 a1, .int .i64 b2, undef, undef, .int .i64 0, undef, undef, undef, undef, undef, undef, .int .i64 a1, .bool false, .bool false, .int .i64 b2, .bool true, .bool true, undef, undef, undef, undef, undef, undef, undef, undef, undef, undef, undef, undef, undef, undef, undef, undef, undef, undef, undef, undef, undef, undef, undef, undef, undef, undef, undef, undef, undef, undef, undef, undef, undef, undef, undef, undef, undef, undef, undef, undef], []⟩) (by kernel_rfl) ?_
      refine wpList_nil ?_
      refine hK15 _ _ ?_
      refine wp_ret ?_
      refine hret _ _ ?_
      refine ends_still (v := Value.int .i64 0) (by kernel_rfl) (by kernel_rfl) ?_
      injection h with h
      subst h
      exact ⟨f, rfl, FM.le.refl _, HS⟩
    · have c13 : ¬ (b2 < 0) := c13
      refine wpRwI 15 (x := (decide (b2 < 0))) (v := false) (by kernel_rfl) (decide_eq_false c13) ?_
      refine wpRwI 16 (x := (decide (b2 < 0))) (v := false) (by kernel_rfl) (decide_eq_false c13) ?_
      refine condF (by kernel_rfl) ?_
      refine wp_skip ?_
      refine hK6 _ _ ?_
      refine wp_seq_k (fun K16 hK17 => ?_)
      refine wp_region_lit ?_
      have hq_ := bind_some h; clear h; obtain ⟨⟨vt18, vt19⟩, hc20, h⟩ := hq_
      refine seqL4 (by kernel_rfl) ?_
      refine seqK rfl (does_call (f := 97) (args := #[.int .u64 (u64 (a1)), .int .u64 (u64 (b2))]) (by kernel_rfl) (bits_Mul64.calls k (u64 (a1)) (u64 (b2)) HS vt18 vt19 hc20) ?_)
      rintro _ W23 ⟨f21, rfl, L22, HS24⟩
      refine ⟨_, rfl, ?_⟩
      refine seqS5 (a' := ⟨#[.int .i64 a1, .int .i64 b2, undef, undef, .int .i64 0, .int .u64 vt18, .int .u64 vt19, undef, undef, undef, undef, .int .i64 a1, .bool false, .bool false, .int .i64 b2, .bool false, .bool false, .tuple #[.int .u64 vt18, .int .u64 vt19], .int .i64 a1, .int .u64 (u64 (a1)), .int .i64 b2, .int .u64 (u64 (b2)), .tuple #[.int .u64 vt18, .int .u64 vt19], .int .u64 vt18, .int .u64 vt19, undef, undef, undef, undef, undef, undef, undef, undef, undef, undef, undef, undef, undef, undef, undef, undef, undef, undef, undef, undef, undef, undef, undef, undef, undef, undef, undef, undef, undef, undef, undef, undef], []⟩) (by kernel_rfl) ?_
      refine wpList_nil ?_
      refine hK17 _ _ ?_
      refine wp_seq_k (fun K25 hK26 => ?_)
      refine wp_region_lit ?_
      refine seqS1 (a' := ⟨#[.int .i64 a1, .int .i64 b2, undef, undef, .int .i64 0, .int .u64 vt18, .int .u64 vt19, .int .u64 0, undef, undef, undef, .int .i64 a1, .bool false, .bool false, .int .i64 b2, .bool false, .bool false, .tuple #[.int .u64 vt18, .int .u64 vt19], .int .i64 a1, .int .u64 (u64 (a1)), .int .i64 b2, .int .u64 (u64 (b2)), .tuple #[.int .u64 vt18, .int .u64 vt19], .int .u64 vt18, .int .u64 vt19, undef, undef, undef, undef, undef, undef, undef, undef, undef, undef, undef, undef, undef, undef, undef, undef, undef, undef, undef, undef, undef, undef, undef, undef, undef, undef, undef, undef, undef, undef, undef, undef], []⟩) (by kernel_rfl) ?_
      refine wpList_nil ?_
      refine hK26 _ _ ?_
      refine wp_seq_k (fun K27 hK28 => ?_)
      refine wp_seq_k (fun K29 hK30 => ?_)
      refine wp_region_lit ?_
      refine seqS1 (a' := ⟨#[.int .i64 a1, .int .i64 b2, undef, undef, .int .i64 0, .int .u64 vt18, .int .u64 vt19, .int .u64 0, .int .u64 4611686018427387904, undef, undef, .int .i64 a1, .bool false, .bool false, .int .i64 b2, .bool false, .bool false, .tuple #[.int .u64 vt18, .int .u64 vt19], .int .i64 a1, .int .u64 (u64 (a1)), .int .i64 b2, .int .u64 (u64 (b2)), .tuple #[.int .u64 vt18, .int .u64 vt19], .int .u64 vt18, .int .u64 vt19, undef, undef, undef, undef, undef, undef, undef, undef, undef, undef, undef, undef, undef, undef, undef, undef, undef, undef, undef, undef, undef, undef, undef, undef, undef, undef, undef, undef, undef, undef, undef, undef], []⟩) (by kernel_rfl) ?_
      refine wpList_nil ?_
      refine hK30 _ _ ?_
      refine blockK (fun B31 hx32 hn33 hr34 ho35 hp36 => ?_)
      have hq_ := bind_some h; clear h; obtain ⟨o37, hv84, h⟩ := hq_
      have J85 : ∀ (f78 : FM) (r83 : Int) (j82 : Nat → Value) (W80 : World) (a_ : Act), FM.le f21 f78 → some (r83) = some o37 → St t W80 f78 (H) → a_ = ⟨#[.int .i64 a1, .int .i64 b2, undef, undef, .int .i64 0, .int .u64 vt18, .int .u64 vt19, .int .u64 r83, (j82 0), (j82 1), (j82 2), .int .i64 a1, .bool false, .bool false, .int .i64 b2, .bool false, .bool false, .tuple #[.int .u64 vt18, .int .u64 vt19], .int .i64 a1, .int .u64 (u64 (a1)), .int .i64 b2, .int .u64 (u64 (b2)), .tuple #[.int .u64 vt18, .int .u64 vt19], .int .u64 vt18, .int .u64 vt19, (j82 3), (j82 4), (j82 5), (j82 6), (j82 7), (j82 8), (j82 9), (j82 10), (j82 11), (j82 12), (j82 13), (j82 14), (j82 15), (j82 16), (j82 17), (j82 18), (j82 19), (j82 20), (j82 21), (j82 22), (j82 23), (j82 24), (j82 25), (j82 26), (j82 27), (j82 28), (j82 29), (j82 30), (j82 31), (j82 32), undef, undef], []⟩ → K27 a_ W80 := by
        intro f78 r83 j82 W80 a_ L79 hj86 HS81  hfr_; subst hfr_
        injection hj86 with hj86; subst hj86; try dsimp only at h
        refine hK28 _ _ ?_
        refine wp_seq_k (fun K87 hK88 => ?_)
        refine wp_region_lit ?_
        refine seqS3 (a' := ⟨#[.int .i64 a1, .int .i64 b2, undef, undef, .int .i64 (w64 (r83)), .int .u64 vt18, .int .u64 vt19, .int .u64 r83, (j82 0), (j82 1), (j82 2), .int .i64 a1, .bool false, .bool false, .int .i64 b2, .bool false, .bool false, .tuple #[.int .u64 vt18, .int .u64 vt19], .int .i64 a1, .int .u64 (u64 (a1)), .int .i64 b2, .int .u64 (u64 (b2)), .tuple #[.int .u64 vt18, .int .u64 vt19], .int .u64 vt18, .int .u64 vt19, (j82 3), (j82 4), (j82 5), (j82 6), (j82 7), (j82 8), (j82 9), (j82 10), (j82 11), (j82 12), (j82 13), (j82 14), (j82 15), (j82 16), (j82 17), (j82 18), (j82 19), (j82 20), (j82 21), (j82 22), (j82 23), (j82 24), (j82 25), (j82 26), (j82 27), (j82 28), (j82 29), (j82 30), (j82 31), (j82 32), .int .u64 r83, .int .i64 (w64 (r83))], []⟩) (by kernel_rfl) ?_
        refine wpList_nil ?_
        refine hK88 _ _ ?_
        refine wp_ret ?_
        refine hret _ _ ?_
        refine ends_still (v := Value.int .i64 (w64 (r83))) (by kernel_rfl) (by kernel_rfl) ?_
        injection h with h
        subst h
        exact ⟨f78, rfl, (L22.trans L79), HS81⟩
      clear h; have h := hv84; clear hv84
      refine loopK (fun n_ a_ w_ => ∃ (f41 : FM) (r46 : Int) (bit47 : Int) (j45 : Nat → Value), FM.le f21 f41 ∧ St t w_ f41 (H) ∧ num_SqrtMul.l0 k vt18 vt19 n_ r46 bit47 = some o37 ∧ a_ = ⟨#[.int .i64 a1, .int .i64 b2, undef, undef, .int .i64 0, .int .u64 vt18, .int .u64 vt19, .int .u64 r46, .int .u64 bit47, (j45 0), (j45 1), .int .i64 a1, .bool false, .bool false, .int .i64 b2, .bool false, .bool false, .tuple #[.int .u64 vt18, .int .u64 vt19], .int .i64 a1, .int .u64 (u64 (a1)), .int .i64 b2, .int .u64 (u64 (b2)), .tuple #[.int .u64 vt18, .int .u64 vt19], .int .u64 vt18, .int .u64 vt19, (j45 2), (j45 3), (j45 4), (j45 5), (j45 6), (j45 7), (j45 8), (j45 9), (j45 10), (j45 11), (j45 12), (j45 13), (j45 14), (j45 15), (j45 16), (j45 17), (j45 18), (j45 19), (j45 20), (j45 21), (j45 22), (j45 23), (j45 24), (j45 25), (j45 26), (j45 27), (j45 28), (j45 29), (j45 30), (j45 31), undef, undef], []⟩) k ⟨f21, 0, 4611686018427387904, (fun i_ => [undef, undef, undef, undef, undef, undef, undef, undef, undef, undef, undef, undef, undef, undef, undef, undef, undef, undef, undef, undef, undef, undef, undef, undef, undef, undef, undef, undef, undef, undef, undef, undef].getD i_ undef), (FM.le.refl _), HS24, h, (by kernel_rfl)⟩ ?_
      clear h
      rintro n40 _ W43 ⟨f41, r46, bit47, j45, L42, HS44, h, rfl⟩ K38 hK39
      obtain _ | n40 := n40
      · exact nomatch h
      simp only [num_SqrtMul.l0] at h
      refine wp_seq_k (fun K48 hK49 => ?_)
      refine wp_seq_k (fun K50 hK51 => ?_)
      refine wp_region_lit ?_
      refine seqS2 (a' := ⟨#[.int .i64 a1, .int .i64 b2, undef, undef, .int .i64 0, .int .u64 vt18, .int .u64 vt19, .int .u64 r46, .int .u64 bit47, (j45 0), (j45 1), .int .i64 a1, .bool false, .bool false, .int .i64 b2, .bool false, .bool false, .tuple #[.int .u64 vt18, .int .u64 vt19], .int .i64 a1, .int .u64 (u64 (a1)), .int .i64 b2, .int .u64 (u64 (b2)), .tuple #[.int .u64 vt18, .int .u64 vt19], .int .u64 vt18, .int .u64 vt19, .int .u64 bit47, .bool (decide (bit47 > 0)), (j45 4), (j45 5), (j45 6), (j45 7), (j45 8), (j45 9), (j45 10), (j45 11), (j45 12), (j45 13), (j45 14), (j45 15), (j45 16), (j45 17), (j45 18), (j45 19), (j45 20), (j45 21), (j45 22), (j45 23), (j45 24), (j45 25), (j45 26), (j45 27), (j45 28), (j45 29), (j45 30), (j45 31), undef, undef], []⟩) (by kernel_rfl) ?_
      refine wpList_nil ?_
      refine hK51 _ _ ?_
      have hq_ := ite_some h; clear h; rcases hq_ with ⟨c53, h⟩ | ⟨c53, h⟩
      · have c53 : bit47 > 0 := c53
        refine wpRwI 26 (x := (decide (bit47 > 0))) (v := true) (by kernel_rfl) (decide_eq_true c53) ?_
        refine condT (by kernel_rfl) ?_
        refine wp_skip ?_
        refine hK49 _ _ ?_
        refine wp_seq_k (fun K54 hK55 => ?_)
        refine blockK (fun B56 hx57 hn58 hr59 ho60 hp61 => ?_)
        refine wp_seq_k (fun K63 hK64 => ?_)
        refine wp_region_lit ?_
        have hq_ := bind_some h; clear h; obtain ⟨⟨vt65, vt66⟩, hc67, h⟩ := hq_
        refine seqL6 (by kernel_rfl) ?_
        refine seqK rfl (does_call (f := 97) (args := #[.int .u64 (Go.bits .or .u64 r46 bit47), .int .u64 (Go.bits .or .u64 r46 bit47)]) (by kernel_rfl) (bits_Mul64.calls k (Go.bits .or .u64 r46 bit47) (Go.bits .or .u64 r46 bit47) HS44 vt65 vt66 hc67) ?_)
        rintro _ W70 ⟨f68, rfl, L69, HS71⟩
        refine ⟨_, rfl, ?_⟩
        refine seqS5 (a' := ⟨#[.int .i64 a1, .int .i64 b2, undef, undef, .int .i64 0, .int .u64 vt18, .int .u64 vt19, .int .u64 r46, .int .u64 bit47, .int .u64 vt65, .int .u64 vt66, .int .i64 a1, .bool false, .bool false, .int .i64 b2, .bool false, .bool false, .tuple #[.int .u64 vt18, .int .u64 vt19], .int .i64 a1, .int .u64 (u64 (a1)), .int .i64 b2, .int .u64 (u64 (b2)), .tuple #[.int .u64 vt18, .int .u64 vt19], .int .u64 vt18, .int .u64 vt19, .int .u64 bit47, .bool true, (j45 4), (j45 5), .tuple #[.int .u64 vt65, .int .u64 vt66], .int .u64 r46, .int .u64 bit47, .int .u64 (Go.bits .or .u64 r46 bit47), .int .u64 r46, .int .u64 bit47, .int .u64 (Go.bits .or .u64 r46 bit47), .tuple #[.int .u64 vt65, .int .u64 vt66], .int .u64 vt65, .int .u64 vt66, (j45 16), (j45 17), (j45 18), (j45 19), (j45 20), (j45 21), (j45 22), (j45 23), (j45 24), (j45 25), (j45 26), (j45 27), (j45 28), (j45 29), (j45 30), (j45 31), undef, undef], []⟩) (by kernel_rfl) ?_
        refine wpList_nil ?_
        refine hK64 _ _ ?_
        refine wp_seq_k (fun K72 hK73 => ?_)
        refine wp_region_lit ?_
        refine seqS4 (a' := ⟨#[.int .i64 a1, .int .i64 b2, undef, undef, .int .i64 0, .int .u64 vt18, .int .u64 vt19, .int .u64 r46, .int .u64 bit47, .int .u64 vt65, .int .u64 vt66, .int .i64 a1, .bool false, .bool false, .int .i64 b2, .bool false, .bool false, .tuple #[.int .u64 vt18, .int .u64 vt19], .int .i64 a1, .int .u64 (u64 (a1)), .int .i64 b2, .int .u64 (u64 (b2)), .tuple #[.int .u64 vt18, .int .u64 vt19], .int .u64 vt18, .int .u64 vt19, .int .u64 bit47, .bool true, (j45 4), (j45 5), .tuple #[.int .u64 vt65, .int .u64 vt66], .int .u64 r46, .int .u64 bit47, .int .u64 (Go.bits .or .u64 r46 bit47), .int .u64 r46, .int .u64 bit47, .int .u64 (Go.bits .or .u64 r46 bit47), .tuple #[.int .u64 vt65, .int .u64 vt66], .int .u64 vt65, .int .u64 vt66, .int .u64 vt65, .int .u64 vt18, .bool (decide (vt65 < vt18)), .bool (decide (vt65 < vt18)), (j45 20), (j45 21), (j45 22), (j45 23), (j45 24), (j45 25), (j45 26), (j45 27), (j45 28), (j45 29), (j45 30), (j45 31), undef, undef], []⟩) (by kernel_rfl) ?_
        have hq_ := ite_some h; clear h; rcases hq_ with ⟨c74, h⟩ | ⟨c74, h⟩
        · have c74 : vt65 < vt18 := c74
          refine seqRwI 41 (x := (decide (vt65 < vt18))) (v := true) (by kernel_rfl) (decide_eq_true c74) ?_
          refine seqRwI 42 (x := (decide (vt65 < vt18))) (v := true) (by kernel_rfl) (decide_eq_true c74) ?_
          refine seqS9 (a' := ⟨#[.int .i64 a1, .int .i64 b2, undef, undef, .int .i64 0, .int .u64 vt18, .int .u64 vt19, .int .u64 r46, .int .u64 bit47, .int .u64 vt65, .int .u64 vt66, .int .i64 a1, .bool false, .bool false, .int .i64 b2, .bool false, .bool false, .tuple #[.int .u64 vt18, .int .u64 vt19], .int .i64 a1, .int .u64 (u64 (a1)), .int .i64 b2, .int .u64 (u64 (b2)), .tuple #[.int .u64 vt18, .int .u64 vt19], .int .u64 vt18, .int .u64 vt19, .int .u64 bit47, .bool true, (j45 4), (j45 5), .tuple #[.int .u64 vt65, .int .u64 vt66], .int .u64 r46, .int .u64 bit47, .int .u64 (Go.bits .or .u64 r46 bit47), .int .u64 r46, .int .u64 bit47, .int .u64 (Go.bits .or .u64 r46 bit47), .tuple #[.int .u64 vt65, .int .u64 vt66], .int .u64 vt65, .int .u64 vt66, .int .u64 vt65, .int .u64 vt18, .bool true, .bool true, undef, undef, undef, undef, undef, undef, undef, undef, .bool true, (j45 29), (j45 30), (j45 31), undef, undef], []⟩) (by kernel_rfl) ?_
          refine wpList_nil ?_
          refine hK73 _ _ ?_
          refine condT (by kernel_rfl) ?_
          refine wp_region_lit ?_
          refine seqS4 (a' := ⟨#[.int .i64 a1, .int .i64 b2, undef, undef, .int .i64 0, .int .u64 vt18, .int .u64 vt19, .int .u64 (Go.bits .or .u64 r46 bit47), .int .u64 bit47, .int .u64 vt65, .int .u64 vt66, .int .i64 a1, .bool false, .bool false, .int .i64 b2, .bool false, .bool false, .tuple #[.int .u64 vt18, .int .u64 vt19], .int .i64 a1, .int .u64 (u64 (a1)), .int .i64 b2, .int .u64 (u64 (b2)), .tuple #[.int .u64 vt18, .int .u64 vt19], .int .u64 vt18, .int .u64 vt19, .int .u64 bit47, .bool true, (j45 4), (j45 5), .tuple #[.int .u64 vt65, .int .u64 vt66], .int .u64 r46, .int .u64 bit47, .int .u64 (Go.bits .or .u64 r46 bit47), .int .u64 r46, .int .u64 bit47, .int .u64 (Go.bits .or .u64 r46 bit47), .tuple #[.int .u64 vt65, .int .u64 vt66], .int .u64 vt65, .int .u64 vt66, .int .u64 vt65, .int .u64 vt18, .bool true, .bool true, undef, undef, undef, undef, undef, undef, undef, undef, .bool true, .int .u64 r46, .int .u64 bit47, .int .u64 (Go.bits .or .u64 r46 bit47), undef, undef], []⟩) (by kernel_rfl) ?_
          refine wpList_nil ?_
          refine hn58 _ _ ?_
          refine hK55 _ _ ?_
          refine wp_region_lit ?_
          refine seqS3 (a' := ⟨#[.int .i64 a1, .int .i64 b2, undef, undef, .int .i64 0, .int .u64 vt18, .int .u64 vt19, .int .u64 (Go.bits .or .u64 r46 bit47), .int .u64 (shr bit47 1), .int .u64 vt65, .int .u64 vt66, .int .i64 a1, .bool false, .bool false, .int .i64 b2, .bool false, .bool false, .tuple #[.int .u64 vt18, .int .u64 vt19], .int .i64 a1, .int .u64 (u64 (a1)), .int .i64 b2, .int .u64 (u64 (b2)), .tuple #[.int .u64 vt18, .int .u64 vt19], .int .u64 vt18, .int .u64 vt19, .int .u64 bit47, .bool true, .int .u64 bit47, .int .u64 (shr bit47 1), .tuple #[.int .u64 vt65, .int .u64 vt66], .int .u64 r46, .int .u64 bit47, .int .u64 (Go.bits .or .u64 r46 bit47), .int .u64 r46, .int .u64 bit47, .int .u64 (Go.bits .or .u64 r46 bit47), .tuple #[.int .u64 vt65, .int .u64 vt66], .int .u64 vt65, .int .u64 vt66, .int .u64 vt65, .int .u64 vt18, .bool true, .bool true, undef, undef, undef, undef, undef, undef, undef, undef, .bool true, .int .u64 r46, .int .u64 bit47, .int .u64 (Go.bits .or .u64 r46 bit47), undef, undef], []⟩) (by kernel_rfl) ?_
          refine wpList_nil ?_
          refine hK39 n40 _ _ (Nat.lt_succ_self _) ?_
          exact ⟨f68, (Go.bits .or .u64 r46 bit47), (shr bit47 1), (fun i_ => [Value.int .u64 vt65, Value.int .u64 vt66, Value.int .u64 bit47, Value.bool true, Value.int .u64 bit47, Value.int .u64 (shr bit47 1), Value.tuple #[.int .u64 vt65, .int .u64 vt66], Value.int .u64 r46, Value.int .u64 bit47, Value.int .u64 (Go.bits .or .u64 r46 bit47), Value.int .u64 r46, Value.int .u64 bit47, Value.int .u64 (Go.bits .or .u64 r46 bit47), Value.tuple #[.int .u64 vt65, .int .u64 vt66], Value.int .u64 vt65, Value.int .u64 vt66, Value.int .u64 vt65, Value.int .u64 vt18, Value.bool true, Value.bool true, undef, undef, undef, undef, undef, undef, undef, undef, Value.bool true, Value.int .u64 r46, Value.int .u64 bit47, Value.int .u64 (Go.bits .or .u64 r46 bit47)].getD i_ undef), (L42.trans L69), HS71, h, (by kernel_rfl)⟩
        · have c74 : ¬ (vt65 < vt18) := c74
          refine seqRwI 41 (x := (decide (vt65 < vt18))) (v := false) (by kernel_rfl) (decide_eq_false c74) ?_
          refine seqRwI 42 (x := (decide (vt65 < vt18))) (v := false) (by kernel_rfl) (decide_eq_false c74) ?_
          refine seqS4 (a' := ⟨#[.int .i64 a1, .int .i64 b2, undef, undef, .int .i64 0, .int .u64 vt18, .int .u64 vt19, .int .u64 r46, .int .u64 bit47, .int .u64 vt65, .int .u64 vt66, .int .i64 a1, .bool false, .bool false, .int .i64 b2, .bool false, .bool false, .tuple #[.int .u64 vt18, .int .u64 vt19], .int .i64 a1, .int .u64 (u64 (a1)), .int .i64 b2, .int .u64 (u64 (b2)), .tuple #[.int .u64 vt18, .int .u64 vt19], .int .u64 vt18, .int .u64 vt19, .int .u64 bit47, .bool true, (j45 4), (j45 5), .tuple #[.int .u64 vt65, .int .u64 vt66], .int .u64 r46, .int .u64 bit47, .int .u64 (Go.bits .or .u64 r46 bit47), .int .u64 r46, .int .u64 bit47, .int .u64 (Go.bits .or .u64 r46 bit47), .tuple #[.int .u64 vt65, .int .u64 vt66], .int .u64 vt65, .int .u64 vt66, .int .u64 vt65, .int .u64 vt18, .bool false, .bool false, .int .u64 vt65, .int .u64 vt18, .bool (vt65 == vt18), .bool (vt65 == vt18), (j45 24), (j45 25), (j45 26), (j45 27), (j45 28), (j45 29), (j45 30), (j45 31), undef, undef], []⟩) (by kernel_rfl) ?_
          have hq_ := ite_some h; clear h; rcases hq_ with ⟨c75, h⟩ | ⟨c75, h⟩
          · have c75 : vt65 = vt18 := c75
            refine seqRwI 45 (x := (vt65 == vt18)) (v := true) (by kernel_rfl) (beq_iff_eq.mpr c75) ?_
            refine seqRwI 46 (x := (vt65 == vt18)) (v := true) (by kernel_rfl) (beq_iff_eq.mpr c75) ?_
            refine seqS5 (a' := ⟨#[.int .i64 a1, .int .i64 b2, undef, undef, .int .i64 0, .int .u64 vt18, .int .u64 vt19, .int .u64 r46, .int .u64 bit47, .int .u64 vt65, .int .u64 vt66, .int .i64 a1, .bool false, .bool false, .int .i64 b2, .bool false, .bool false, .tuple #[.int .u64 vt18, .int .u64 vt19], .int .i64 a1, .int .u64 (u64 (a1)), .int .i64 b2, .int .u64 (u64 (b2)), .tuple #[.int .u64 vt18, .int .u64 vt19], .int .u64 vt18, .int .u64 vt19, .int .u64 bit47, .bool true, (j45 4), (j45 5), .tuple #[.int .u64 vt65, .int .u64 vt66], .int .u64 r46, .int .u64 bit47, .int .u64 (Go.bits .or .u64 r46 bit47), .int .u64 r46, .int .u64 bit47, .int .u64 (Go.bits .or .u64 r46 bit47), .tuple #[.int .u64 vt65, .int .u64 vt66], .int .u64 vt65, .int .u64 vt66, .int .u64 vt65, .int .u64 vt18, .bool false, .bool false, .int .u64 vt65, .int .u64 vt18, .bool true, .bool true, .int .u64 vt66, .int .u64 vt19, .bool (decide (vt66 ≤ vt19)), .bool (decide (vt66 ≤ vt19)), .bool (decide (vt66 ≤ vt19)), (j45 29), (j45 30), (j45 31), undef, undef], []⟩) (by kernel_rfl) ?_
            refine wpList_nil ?_
            refine hK73 _ _ ?_
            have hq_ := ite_some h; clear h; rcases hq_ with ⟨c77, h⟩ | ⟨c77, h⟩
            · have c77 : vt66 ≤ vt19 := c77
              refine wpRwI 49 (x := (decide (vt66 ≤ vt19))) (v := true) (by kernel_rfl) (decide_eq_true c77) ?_
              refine wpRwI 50 (x := (decide (vt66 ≤ vt19))) (v := true) (by kernel_rfl) (decide_eq_true c77) ?_
              refine wpRwI 51 (x := (decide (vt66 ≤ vt19))) (v := true) (by kernel_rfl) (decide_eq_true c77) ?_
              refine condT (by kernel_rfl) ?_
              refine wp_region_lit ?_
              refine seqS4 (a' := ⟨#[.int .i64 a1, .int .i64 b2, undef, undef, .int .i64 0, .int .u64 vt18, .int .u64 vt19, .int .u64 (Go.bits .or .u64 r46 bit47), .int .u64 bit47, .int .u64 vt65, .int .u64 vt66, .int .i64 a1, .bool false, .bool false, .int .i64 b2, .bool false, .bool false, .tuple #[.int .u64 vt18, .int .u64 vt19], .int .i64 a1, .int .u64 (u64 (a1)), .int .i64 b2, .int .u64 (u64 (b2)), .tuple #[.int .u64 vt18, .int .u64 vt19], .int .u64 vt18, .int .u64 vt19, .int .u64 bit47, .bool true, (j45 4), (j45 5), .tuple #[.int .u64 vt65, .int .u64 vt66], .int .u64 r46, .int .u64 bit47, .int .u64 (Go.bits .or .u64 r46 bit47), .int .u64 r46, .int .u64 bit47, .int .u64 (Go.bits .or .u64 r46 bit47), .tuple #[.int .u64 vt65, .int .u64 vt66], .int .u64 vt65, .int .u64 vt66, .int .u64 vt65, .int .u64 vt18, .bool false, .bool false, .int .u64 vt65, .int .u64 vt18, .bool true, .bool true, .int .u64 vt66, .int .u64 vt19, .bool true, .bool true, .bool true, .int .u64 r46, .int .u64 bit47, .int .u64 (Go.bits .or .u64 r46 bit47), undef, undef], []⟩) (by kernel_rfl) ?_
              refine wpList_nil ?_
              refine hn58 _ _ ?_
              refine hK55 _ _ ?_
              refine wp_region_lit ?_
              refine seqS3 (a' := ⟨#[.int .i64 a1, .int .i64 b2, undef, undef, .int .i64 0, .int .u64 vt18, .int .u64 vt19, .int .u64 (Go.bits .or .u64 r46 bit47), .int .u64 (shr bit47 1), .int .u64 vt65, .int .u64 vt66, .int .i64 a1, .bool false, .bool false, .int .i64 b2, .bool false, .bool false, .tuple #[.int .u64 vt18, .int .u64 vt19], .int .i64 a1, .int .u64 (u64 (a1)), .int .i64 b2, .int .u64 (u64 (b2)), .tuple #[.int .u64 vt18, .int .u64 vt19], .int .u64 vt18, .int .u64 vt19, .int .u64 bit47, .bool true, .int .u64 bit47, .int .u64 (shr bit47 1), .tuple #[.int .u64 vt65, .int .u64 vt66], .int .u64 r46, .int .u64 bit47, .int .u64 (Go.bits .or .u64 r46 bit47), .int .u64 r46, .int .u64 bit47, .int .u64 (Go.bits .or .u64 r46 bit47), .tuple #[.int .u64 vt65, .int .u64 vt66], .int .u64 vt65, .int .u64 vt66, .int .u64 vt65, .int .u64 vt18, .bool false, .bool false, .int .u64 vt65, .int .u64 vt18, .bool true, .bool true, .int .u64 vt66, .int .u64 vt19, .bool true, .bool true, .bool true, .int .u64 r46, .int .u64 bit47, .int .u64 (Go.bits .or .u64 r46 bit47), undef, undef], []⟩) (by kernel_rfl) ?_
              refine wpList_nil ?_
              refine hK39 n40 _ _ (Nat.lt_succ_self _) ?_
              exact ⟨f68, (Go.bits .or .u64 r46 bit47), (shr bit47 1), (fun i_ => [Value.int .u64 vt65, Value.int .u64 vt66, Value.int .u64 bit47, Value.bool true, Value.int .u64 bit47, Value.int .u64 (shr bit47 1), Value.tuple #[.int .u64 vt65, .int .u64 vt66], Value.int .u64 r46, Value.int .u64 bit47, Value.int .u64 (Go.bits .or .u64 r46 bit47), Value.int .u64 r46, Value.int .u64 bit47, Value.int .u64 (Go.bits .or .u64 r46 bit47), Value.tuple #[.int .u64 vt65, .int .u64 vt66], Value.int .u64 vt65, Value.int .u64 vt66, Value.int .u64 vt65, Value.int .u64 vt18, Value.bool false, Value.bool false, Value.int .u64 vt65, Value.int .u64 vt18, Value.bool true, Value.bool true, Value.int .u64 vt66, Value.int .u64 vt19, Value.bool true, Value.bool true, Value.bool true, Value.int .u64 r46, Value.int .u64 bit47, Value.int .u64 (Go.bits .or .u64 r46 bit47)].getD i_ undef), (L42.trans L69), HS71, h, (by kernel_rfl)⟩
            · have c77 : ¬ (vt66 ≤ vt19) := c77
              refine wpRwI 49 (x := (decide (vt66 ≤ vt19))) (v := false) (by kernel_rfl) (decide_eq_false c77) ?_
              refine wpRwI 50 (x := (decide (vt66 ≤ vt19))) (v := false) (by kernel_rfl) (decide_eq_false c77) ?_
              refine wpRwI 51 (x := (decide (vt66 ≤ vt19))) (v := false) (by kernel_rfl) (decide_eq_false c77) ?_
              refine condF (by kernel_rfl) ?_
              refine wp_skip ?_
              refine hn58 _ _ ?_
              refine hK55 _ _ ?_
              refine wp_region_lit ?_
              refine seqS3 (a' := ⟨#[.int .i64 a1, .int .i64 b2, undef, undef, .int .i64 0, .int .u64 vt18, .int .u64 vt19, .int .u64 r46, .int .u64 (shr bit47 1), .int .u64 vt65, .int .u64 vt66, .int .i64 a1, .bool false, .bool false, .int .i64 b2, .bool false, .bool false, .tuple #[.int .u64 vt18, .int .u64 vt19], .int .i64 a1, .int .u64 (u64 (a1)), .int .i64 b2, .int .u64 (u64 (b2)), .tuple #[.int .u64 vt18, .int .u64 vt19], .int .u64 vt18, .int .u64 vt19, .int .u64 bit47, .bool true, .int .u64 bit47, .int .u64 (shr bit47 1), .tuple #[.int .u64 vt65, .int .u64 vt66], .int .u64 r46, .int .u64 bit47, .int .u64 (Go.bits .or .u64 r46 bit47), .int .u64 r46, .int .u64 bit47, .int .u64 (Go.bits .or .u64 r46 bit47), .tuple #[.int .u64 vt65, .int .u64 vt66], .int .u64 vt65, .int .u64 vt66, .int .u64 vt65, .int .u64 vt18, .bool false, .bool false, .int .u64 vt65, .int .u64 vt18, .bool true, .bool true, .int .u64 vt66, .int .u64 vt19, .bool false, .bool false, .bool false, (j45 29), (j45 30), (j45 31), undef, undef], []⟩) (by kernel_rfl) ?_
              refine wpList_nil ?_
              refine hK39 n40 _ _ (Nat.lt_succ_self _) ?_
              exact ⟨f68, r46, (shr bit47 1), (fun i_ => [Value.int .u64 vt65, Value.int .u64 vt66, Value.int .u64 bit47, Value.bool true, Value.int .u64 bit47, Value.int .u64 (shr bit47 1), Value.tuple #[.int .u64 vt65, .int .u64 vt66], Value.int .u64 r46, Value.int .u64 bit47, Value.int .u64 (Go.bits .or .u64 r46 bit47), Value.int .u64 r46, Value.int .u64 bit47, Value.int .u64 (Go.bits .or .u64 r46 bit47), Value.tuple #[.int .u64 vt65, .int .u64 vt66], Value.int .u64 vt65, Value.int .u64 vt66, Value.int .u64 vt65, Value.int .u64 vt18, Value.bool false, Value.bool false, Value.int .u64 vt65, Value.int .u64 vt18, Value.bool true, Value.bool true, Value.int .u64 vt66, Value.int .u64 vt19, Value.bool false, Value.bool false, Value.bool false, (j45 29), (j45 30), (j45 31)].getD i_ undef), (L42.trans L69), HS71, h, (by kernel_rfl)⟩
          · have c75 : ¬ (vt65 = vt18) := c75
            refine seqRwI 45 (x := (vt65 == vt18)) (v := false) (by kernel_rfl) (beq_eq_false_iff_ne.mpr c75) ?_
            refine seqRwI 46 (x := (vt65 == vt18)) (v := false) (by kernel_rfl) (beq_eq_false_iff_ne.mpr c75) ?_
            refine seqS5 (a' := ⟨#[.int .i64 a1, .int .i64 b2, undef, undef, .int .i64 0, .int .u64 vt18, .int .u64 vt19, .int .u64 r46, .int .u64 bit47, .int .u64 vt65, .int .u64 vt66, .int .i64 a1, .bool false, .bool false, .int .i64 b2, .bool false, .bool false, .tuple #[.int .u64 vt18, .int .u64 vt19], .int .i64 a1, .int .u64 (u64 (a1)), .int .i64 b2, .int .u64 (u64 (b2)), .tuple #[.int .u64 vt18, .int .u64 vt19], .int .u64 vt18, .int .u64 vt19, .int .u64 bit47, .bool true, (j45 4), (j45 5), .tuple #[.int .u64 vt65, .int .u64 vt66], .int .u64 r46, .int .u64 bit47, .int .u64 (Go.bits .or .u64 r46 bit47), .int .u64 r46, .int .u64 bit47, .int .u64 (Go.bits .or .u64 r46 bit47), .tuple #[.int .u64 vt65, .int .u64 vt66], .int .u64 vt65, .int .u64 vt66, .int .u64 vt65, .int .u64 vt18, .bool false, .bool false, .int .u64 vt65, .int .u64 vt18, .bool false, .bool false, undef, undef, undef, .bool false, .bool false, (j45 29), (j45 30), (j45 31), undef, undef], []⟩) (by kernel_rfl) ?_
            refine wpList_nil ?_
            refine hK73 _ _ ?_
            refine condF (by kernel_rfl) ?_
            refine wp_skip ?_
            refine hn58 _ _ ?_
            refine hK55 _ _ ?_
            refine wp_region_lit ?_
            refine seqS3 (a' := ⟨#[.int .i64 a1, .int .i64 b2, undef, undef, .int .i64 0, .int .u64 vt18, .int .u64 vt19, .int .u64 r46, .int .u64 (shr bit47 1), .int .u64 vt65, .int .u64 vt66, .int .i64 a1, .bool false, .bool false, .int .i64 b2, .bool false, .bool false, .tuple #[.int .u64 vt18, .int .u64 vt19], .int .i64 a1, .int .u64 (u64 (a1)), .int .i64 b2, .int .u64 (u64 (b2)), .tuple #[.int .u64 vt18, .int .u64 vt19], .int .u64 vt18, .int .u64 vt19, .int .u64 bit47, .bool true, .int .u64 bit47, .int .u64 (shr bit47 1), .tuple #[.int .u64 vt65, .int .u64 vt66], .int .u64 r46, .int .u64 bit47, .int .u64 (Go.bits .or .u64 r46 bit47), .int .u64 r46, .int .u64 bit47, .int .u64 (Go.bits .or .u64 r46 bit47), .tuple #[.int .u64 vt65, .int .u64 vt66], .int .u64 vt65, .int .u64 vt66, .int .u64 vt65, .int .u64 vt18, .bool false, .bool false, .int .u64 vt65, .int .u64 vt18, .bool false, .bool false, undef, undef, undef, .bool false, .bool false, (j45 29), (j45 30), (j45 31), undef, undef], []⟩) (by kernel_rfl) ?_
            refine wpList_nil ?_
            refine hK39 n40 _ _ (Nat.lt_succ_self _) ?_
            exact ⟨f68, r46, (shr bit47 1), (fun i_ => [Value.int .u64 vt65, Value.int .u64 vt66, Value.int .u64 bit47, Value.bool true, Value.int .u64 bit47, Value.int .u64 (shr bit47 1), Value.tuple #[.int .u64 vt65, .int .u64 vt66], Value.int .u64 r46, Value.int .u64 bit47, Value.int .u64 (Go.bits .or .u64 r46 bit47), Value.int .u64 r46, Value.int .u64 bit47, Value.int .u64 (Go.bits .or .u64 r46 bit47), Value.tuple #[.int .u64 vt65, .int .u64 vt66], Value.int .u64 vt65, Value.int .u64 vt66, Value.int .u64 vt65, Value.int .u64 vt18, Value.bool false, Value.bool false, Value.int .u64 vt65, Value.int .u64 vt18, Value.bool false, Value.bool false, undef, undef, undef, Value.bool false, Value.bool false, (j45 29), (j45 30), (j45 31)].getD i_ undef), (L42.trans L69), HS71, h, (by kernel_rfl)⟩
      · have c53 : ¬ (bit47 > 0) := c53
        refine wpRwI 26 (x := (decide (bit47 > 0))) (v := false) (by kernel_rfl) (decide_eq_false c53) ?_
        refine condF (by kernel_rfl) ?_
        refine wp_exit ?_
        refine hx32 _ _ ?_
        exact J85 f41 r46 (fun i_ => [Value.int .u64 bit47, (j45 0), (j45 1), Value.int .u64 bit47, Value.bool false, (j45 4), (j45 5), (j45 6), (j45 7), (j45 8), (j45 9), (j45 10), (j45 11), (j45 12), (j45 13), (j45 14), (j45 15), (j45 16), (j45 17), (j45 18), (j45 19), (j45 20), (j45 21), (j45 22), (j45 23), (j45 24), (j45 25), (j45 26), (j45 27), (j45 28), (j45 29), (j45 30), (j45 31)].getD i_ undef) W43 _ L42 h HS44 (by kernel_rfl)

set_option maxRecDepth 100000 in
set_option maxHeartbeats 4000000 in
theorem num_Sqrt.calls (k : Nat)  (a1 : Int) {t w : World} {f : FM} {H : List Seg} (HS : St t w f (H)) (r1 : Int) (h : num_Sqrt k a1 = some r1) :
    Calls Try.prog 96 #[.int .i64 a1] w (fun e w' => ∃ (g : FM), e = .returned (Value.int .i64 r1) ∧ FM.le f g ∧ St t w' g (H)) := by
  unfold num_Sqrt at h
  refine enter Try.func96 rfl (tm := #[.int .i64 a1, undef, undef, undef, undef]) (by kernel_rfl) ?_
  intro B hret hnor hnp
  refine wp_seq_k (fun K2 hK3 => ?_)
  refine wp_region_lit ?_
  refine seqS1 (a' := ⟨#[.int .i64 a1, undef, .int .i64 0, undef, undef], []⟩) (by kernel_rfl) ?_
  refine wpList_nil ?_
  refine hK3 _ _ ?_
  refine wp_seq_k (fun K4 hK5 => ?_)
  refine wp_region_lit ?_
  have hq_ := bind_some h; clear h; obtain ⟨vt6, hc7, h⟩ := hq_
  refine seqL1 (by kernel_rfl) ?_
  refine seqK rfl (does_call (f := 117) (args := #[.int .i64 a1, .int .i64 1]) (by kernel_rfl) (num_SqrtMul.calls k a1 1 HS vt6 hc7) ?_)
  rintro _ W10 ⟨f8, rfl, L9, HS11⟩
  refine ⟨_, rfl, ?_⟩
  refine seqS1 (a' := ⟨#[.int .i64 a1, undef, .int .i64 vt6, .int .i64 a1, .int .i64 vt6], []⟩) (by kernel_rfl) ?_
  refine wpList_nil ?_
  refine hK5 _ _ ?_
  refine wp_ret ?_
  refine hret _ _ ?_
  refine ends_still (v := Value.int .i64 vt6) (by kernel_rfl) (by kernel_rfl) ?_
  injection h with h
  subst h
  exact ⟨f8, rfl, L9, HS11⟩

set_option maxRecDepth 100000 in
set_option maxHeartbeats 4000000 in
theorem quanta_root.calls (k : Nat)  (q1 : Int) {t w : World} {f : FM} {H : List Seg} (HS : St t w f (H)) (r1 : Int) (h : quanta_root k q1 = some r1) :
    Calls Try.prog 59 #[.int .i64 q1] w (fun e w' => ∃ (g : FM), e = .returned (Value.int .i64 r1) ∧ FM.le f g ∧ St t w' g (H)) := by
  unfold quanta_root at h
  refine enter Try.func59 rfl (tm := #[.int .i64 q1, undef, undef, undef, undef]) (by kernel_rfl) ?_
  intro B hret hnor hnp
  refine wp_seq_k (fun K2 hK3 => ?_)
  refine wp_region_lit ?_
  refine seqS1 (a' := ⟨#[.int .i64 q1, undef, .int .i64 0, undef, undef], []⟩) (by kernel_rfl) ?_
  refine wpList_nil ?_
  refine hK3 _ _ ?_
  refine wp_seq_k (fun K4 hK5 => ?_)
  refine wp_region_lit ?_
  have hq_ := bind_some h; clear h; obtain ⟨vt6, hc7, h⟩ := hq_
  refine seqL1 (by kernel_rfl) ?_
  refine seqK rfl (does_call (f := 96) (args := #[.int .i64 q1]) (by kernel_rfl) (num_Sqrt.calls k q1 HS vt6 hc7) ?_)
  rintro _ W10 ⟨f8, rfl, L9, HS11⟩
  refine ⟨_, rfl, ?_⟩
  refine seqS1 (a' := ⟨#[.int .i64 q1, undef, .int .i64 vt6, .int .i64 q1, .int .i64 vt6], []⟩) (by kernel_rfl) ?_
  refine wpList_nil ?_
  refine hK5 _ _ ?_
  refine wp_ret ?_
  refine hret _ _ ?_
  refine ends_still (v := Value.int .i64 vt6) (by kernel_rfl) (by kernel_rfl) ?_
  injection h with h
  subst h
  exact ⟨f8, rfl, L9, HS11⟩

end Go.Sp.Z6
