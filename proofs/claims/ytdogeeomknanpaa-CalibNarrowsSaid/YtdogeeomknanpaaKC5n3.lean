import Derived.Test.YtdogeeomknanpaaProg
import Derived.Test.YtdogeeomknanpaaSpThree
import Derived.Test.YtdogeeomknanpaaFC5
import Derived.Test.YtdogeeomknanpaaKC5n0
import Derived.Test.YtdogeeomknanpaaKC5n1
import Derived.Test.YtdogeeomknanpaaKC5n2
namespace Go.Sp.C5
open Go Go.Sp Go.Proofs
set_option linter.unusedVariables false
attribute [local irreducible] wpList AnyL Code.wp Calls Does
set_option maxRecDepth 100000 in
set_option maxHeartbeats 4000000 in
theorem num_Wide_Div.calls (k : Nat)  (vw1 : S_Wide) (d2 : Int) {t w : World} {f : FM} {H : List Seg} (HS : St t w f (H)) (r1 : Int) (r2 : Int) (h : num_Wide_Div k vw1 d2 = some (r1, r2)) :
    Calls Try.prog 91 #[.agg #[.int .i64 vw1.Hi, .int .u64 vw1.Lo], .int .i64 d2] w (fun e w' => ∃ (g : FM), e = .returned (Value.tuple #[.int .i64 r1, .int .i64 r2]) ∧ FM.le f g ∧ St t w' g (H)) := by
  unfold num_Wide_Div at h
  refine enter Try.func91 rfl (tm := #[.agg #[.int .i64 vw1.Hi, .int .u64 vw1.Lo], .int .i64 d2, undef, undef, undef, undef, undef, undef, undef, undef, undef, undef, undef, undef, undef, undef, undef, undef, undef, undef, undef, undef, undef, undef, undef, undef, undef, undef, undef, undef, undef, undef, undef, undef, undef, undef, undef, undef, undef, undef, undef, undef, undef, undef, undef, undef, undef, undef, undef, undef, undef, undef, undef, undef, undef, undef, undef, undef, undef, undef, undef]) (by kernel_rfl) ?_
  intro B hret hnor hnp
  refine wp_seq_k (fun K3 hK4 => ?_)
  refine wp_region_lit ?_
  refine seqK rfl (does_box (cs := #[.int .i64 vw1.Hi, .int .u64 vw1.Lo]) rfl (by kernel_rfl : _ = Value.agg #[.int .i64 vw1.Hi, .int .u64 vw1.Lo]) rfl HS ?_)
  intro b5 W6 HS7
  refine seqS2 (a' := ⟨#[.agg #[.int .i64 vw1.Hi, .int .u64 vw1.Lo], .int .i64 d2, .pointer (some ⟨b5, 0, none⟩), undef, .int .i64 0, .int .i64 0, undef, undef, undef, undef, undef, undef, undef, undef, undef, undef, undef, undef, undef, undef, undef, undef, undef, undef, undef, undef, undef, undef, undef, undef, undef, undef, undef, undef, undef, undef, undef, undef, undef, undef, undef, undef, undef, undef, undef, undef, undef, undef, undef, undef, undef, undef, undef, undef, undef, undef, undef, undef, undef, undef, undef], []⟩) (by kernel_rfl) ?_
  refine wpList_nil ?_
  refine hK4 _ _ ?_
  refine wp_seq_k (fun K9 hK10 => ?_)
  refine wp_seq_k (fun K11 hK12 => ?_)
  refine wp_region_lit ?_
  refine seqS2 (a' := ⟨#[.agg #[.int .i64 vw1.Hi, .int .u64 vw1.Lo], .int .i64 d2, .pointer (some ⟨b5, 0, none⟩), undef, .int .i64 0, .int .i64 0, undef, undef, undef, undef, .int .i64 d2, .bool (decide (d2 < 1)), undef, undef, undef, undef, undef, undef, undef, undef, undef, undef, undef, undef, undef, undef, undef, undef, undef, undef, undef, undef, undef, undef, undef, undef, undef, undef, undef, undef, undef, undef, undef, undef, undef, undef, undef, undef, undef, undef, undef, undef, undef, undef, undef, undef, undef, undef, undef, undef, undef], []⟩) (by kernel_rfl) ?_
  refine wpList_nil ?_
  refine hK12 _ _ ?_
  have hq_ := ite_some h; clear h; rcases hq_ with ⟨c14, h⟩ | ⟨c14, h⟩
  · have c14 : d2 < 1 := c14
    refine wpRwI 11 (x := (decide (d2 < 1))) (v := true) (by kernel_rfl) (decide_eq_true c14) ?_
    refine condT (by kernel_rfl) ?_
    refine wp_seq_k (fun K15 hK16 => ?_)
    refine wp_region_lit ?_
    refine seqS2 (a' := ⟨#[.agg #[.int .i64 vw1.Hi, .int .u64 vw1.Lo], .int .i64 d2, .pointer (some ⟨b5, 0, none⟩), undef, .int .i64 0, .int .i64 1, undef, undef, undef, undef, .int .i64 d2, .bool true, undef, undef, undef, undef, undef, undef, undef, undef, undef, undef, undef, undef, undef, undef, undef, undef, undef, undef, undef, undef, undef, undef, undef, undef, undef, undef, undef, undef, undef, undef, undef, undef, undef, undef, undef, undef, undef, undef, undef, undef, undef, undef, undef, undef, undef, undef, undef, undef, undef], []⟩) (by kernel_rfl) ?_
    refine wpList_nil ?_
    refine hK16 _ _ ?_
    refine wp_ret ?_
    refine hret _ _ ?_
    refine ends_still (v := Value.tuple #[.int .i64 0, .int .i64 1]) (by kernel_rfl) (by kernel_rfl) ?_
    have HS129 := HS7.drop
    injection h with h
    injection h with h0_ h
    subst h0_ h
    exact ⟨f, rfl, FM.le.refl _, HS129⟩
  · have c14 : ¬ (d2 < 1) := c14
    refine wpRwI 11 (x := (decide (d2 < 1))) (v := false) (by kernel_rfl) (decide_eq_false c14) ?_
    refine condF (by kernel_rfl) ?_
    refine wp_skip ?_
    refine hK10 _ _ ?_
    refine wp_seq_k (fun K17 hK18 => ?_)
    refine wp_region_lit ?_
    refine seqK rfl (does_run (run_loadN (n := 2) rfl Try.underlying126 rfl (by kernel_rfl) (by kernel_rfl : _ = Value.pointer (some ⟨b5, 0, none⟩)) (cs := [.int .i64 vw1.Hi, .int .u64 vw1.Lo]) rfl (HS7.cells 0 2 _ rfl)) ?_)
    refine seqK rfl (does_alloc (z := Value.agg #[.int .i64 0, .int .u64 0]) (cs := #[.int .i64 0, .int .u64 0]) rfl (by kernel_rfl) rfl HS7 ?_)
    intro b19 W20 HS21
    refine seqK rfl (does_store (n := 2) (vs := [.int .i64 vw1.Hi, .int .u64 vw1.Lo]) (cs' := #[.int .i64 vw1.Hi, .int .u64 vw1.Lo]) rfl (by kernel_rfl) (by kernel_rfl : _ = Value.pointer (some ⟨b19, 0, none⟩)) (by kernel_rfl : _ = Value.agg #[.int .i64 vw1.Hi, .int .u64 vw1.Lo]) rfl rfl (by intro u_ hu_; simp only [List.mem_cons, List.not_mem_nil, or_false] at hu_; rcases hu_ with rfl | rfl <;> rfl) HS21 (Nat.le_of_ble_eq_true rfl) (by kernel_rfl) ?_)
    intro W23 HS24
    refine wpList_nil ?_
    refine hK18 _ _ ?_
    refine wp_seq_k (fun K25 hK26 => ?_)
    refine wp_seq_k (fun K27 hK28 => ?_)
    refine wp_region_lit ?_
    refine seqL1 (by kernel_rfl) ?_
    refine seqK rfl (does_run (run_load rfl Try.underlying2 rfl (by kernel_rfl : _ = Value.pointer (some ⟨b5, 0, none⟩)) (HS24.u1.cell 0)) ?_)
    refine seqS1 (a' := ⟨#[.agg #[.int .i64 vw1.Hi, .int .u64 vw1.Lo], .int .i64 d2, .pointer (some ⟨b5, 0, none⟩), undef, .int .i64 0, .int .i64 0, .pointer (some ⟨b19, 0, none⟩), undef, undef, undef, .int .i64 d2, .bool false, .agg #[.int .i64 vw1.Hi, .int .u64 vw1.Lo], .pointer (some ⟨b5, 0, none⟩), .int .i64 vw1.Hi, .bool (decide (vw1.Hi < 0)), undef, undef, undef, undef, undef, undef, undef, undef, undef, undef, undef, undef, undef, undef, undef, undef, undef, undef, undef, undef, undef, undef, undef, undef, undef, undef, undef, undef, undef, undef, undef, undef, undef, undef, undef, undef, undef, undef, undef, undef, undef, undef, undef, undef, undef], []⟩) (by kernel_rfl) ?_
    refine wpList_nil ?_
    refine hK28 _ _ ?_
    have hq_ := bind_some h; clear h; obtain ⟨v29, hv46, h⟩ := hq_
    have J47 : ∀ (f39 : FM) (x44 : Int) (x45 : Int) (j43 : Nat → Value) (W41 : World) (a_ : Act), FM.le f f39 → some ((x44, x45)) = some v29 → St t W41 f39 ([(b19, .cells #[.int .i64 x44, .int .u64 x45] 126 (0, 0))] :: [(b5, .cells #[.int .i64 vw1.Hi, .int .u64 vw1.Lo] 126 (0, 0))] :: H) → a_ = ⟨#[.agg #[.int .i64 vw1.Hi, .int .u64 vw1.Lo], .int .i64 d2, .pointer (some ⟨b5, 0, none⟩), undef, .int .i64 0, .int .i64 0, .pointer (some ⟨b19, 0, none⟩), undef, undef, undef, .int .i64 d2, .bool false, .agg #[.int .i64 vw1.Hi, .int .u64 vw1.Lo], .pointer (some ⟨b5, 0, none⟩), .int .i64 vw1.Hi, (j43 0), (j43 1), (j43 2), undef, undef, undef, undef, undef, undef, undef, undef, undef, undef, undef, undef, undef, undef, undef, undef, undef, undef, undef, undef, undef, undef, undef, undef, undef, undef, undef, undef, undef, undef, undef, undef, undef, undef, undef, undef, undef, undef, undef, undef, undef, undef, undef], []⟩ → K25 a_ W41 := by
      intro f39 x44 x45 j43 W41 a_ L40 hj48 HS42  hfr_; subst hfr_
      injection hj48 with hj48; subst hj48; try dsimp only at h
      refine hK26 _ _ ?_
      refine wp_seq_k (fun K49 hK50 => ?_)
      refine wp_seq_k (fun K51 hK52 => ?_)
      refine wp_region_lit ?_
      refine seqL1 (by kernel_rfl) ?_
      refine seqK rfl (does_run (run_load rfl Try.underlying2 rfl (by kernel_rfl : _ = Value.pointer (some ⟨b19, 0, none⟩)) (HS42.cell 0)) ?_)
      refine seqS4 (a' := ⟨#[.agg #[.int .i64 vw1.Hi, .int .u64 vw1.Lo], .int .i64 d2, .pointer (some ⟨b5, 0, none⟩), undef, .int .i64 0, .int .i64 0, .pointer (some ⟨b19, 0, none⟩), undef, undef, undef, .int .i64 d2, .bool false, .agg #[.int .i64 vw1.Hi, .int .u64 vw1.Lo], .pointer (some ⟨b5, 0, none⟩), .int .i64 vw1.Hi, (j43 0), (j43 1), (j43 2), .pointer (some ⟨b19, 0, none⟩), .int .i64 x44, .int .u64 (u64 (x44)), .int .i64 d2, .int .u64 (u64 (d2)), .bool (decide ((u64 (x44)) ≥ (u64 (d2)))), undef, undef, undef, undef, undef, undef, undef, undef, undef, undef, undef, undef, undef, undef, undef, undef, undef, undef, undef, undef, undef, undef, undef, undef, undef, undef, undef, undef, undef, undef, undef, undef, undef, undef, undef, undef, undef], []⟩) (by kernel_rfl) ?_
      refine wpList_nil ?_
      refine hK52 _ _ ?_
      have hq_ := ite_some h; clear h; rcases hq_ with ⟨c54, h⟩ | ⟨c54, h⟩
      · have c54 : (u64 (x44)) ≥ (u64 (d2)) := c54
        refine wpRwI 23 (x := (decide ((u64 (x44)) ≥ (u64 (d2))))) (v := true) (by kernel_rfl) (decide_eq_true c54) ?_
        refine condT (by kernel_rfl) ?_
        refine wp_seq_k (fun K55 hK56 => ?_)
        refine wp_region_lit ?_
        refine seqS2 (a' := ⟨#[.agg #[.int .i64 vw1.Hi, .int .u64 vw1.Lo], .int .i64 d2, .pointer (some ⟨b5, 0, none⟩), undef, .int .i64 0, .int .i64 2, .pointer (some ⟨b19, 0, none⟩), undef, undef, undef, .int .i64 d2, .bool false, .agg #[.int .i64 vw1.Hi, .int .u64 vw1.Lo], .pointer (some ⟨b5, 0, none⟩), .int .i64 vw1.Hi, (j43 0), (j43 1), (j43 2), .pointer (some ⟨b19, 0, none⟩), .int .i64 x44, .int .u64 (u64 (x44)), .int .i64 d2, .int .u64 (u64 (d2)), .bool true, undef, undef, undef, undef, undef, undef, undef, undef, undef, undef, undef, undef, undef, undef, undef, undef, undef, undef, undef, undef, undef, undef, undef, undef, undef, undef, undef, undef, undef, undef, undef, undef, undef, undef, undef, undef, undef], []⟩) (by kernel_rfl) ?_
        refine wpList_nil ?_
        refine hK56 _ _ ?_
        refine wp_ret ?_
        refine hret _ _ ?_
        refine ends_still (v := Value.tuple #[.int .i64 0, .int .i64 2]) (by kernel_rfl) (by kernel_rfl) ?_
        have HS130 := HS42.drop
        have HS131 := HS130.drop
        injection h with h
        injection h with h0_ h
        subst h0_ h
        exact ⟨f39, rfl, L40, HS131⟩
      · have c54 : ¬ ((u64 (x44)) ≥ (u64 (d2))) := c54
        refine wpRwI 23 (x := (decide ((u64 (x44)) ≥ (u64 (d2))))) (v := false) (by kernel_rfl) (decide_eq_false c54) ?_
        refine condF (by kernel_rfl) ?_
        refine wp_skip ?_
        refine hK50 _ _ ?_
        refine wp_seq_k (fun K57 hK58 => ?_)
        refine wp_region_lit ?_
        refine seqL1 (by kernel_rfl) ?_
        refine seqK rfl (does_run (run_load rfl Try.underlying2 rfl (by kernel_rfl : _ = Value.pointer (some ⟨b19, 0, none⟩)) (HS42.cell 0)) ?_)
        refine seqL2 (by kernel_rfl) ?_
        refine seqK rfl (does_run (run_load rfl Try.underlying61 rfl (by kernel_rfl : _ = Value.pointer (some ⟨b19, 1, none⟩)) (HS42.cell 1)) ?_)
        have hq_ := bind_some h; clear h; obtain ⟨⟨vt59, vt60⟩, hc61, h⟩ := hq_
        refine seqL2 (by kernel_rfl) ?_
        refine seqK rfl (does_call (f := 114) (args := #[.int .u64 (u64 (x44)), .int .u64 x45, .int .u64 (u64 (d2))]) (by kernel_rfl) (bits_Div64.calls k (u64 (x44)) x45 (u64 (d2)) HS42 vt59 vt60 hc61) ?_)
        rintro _ W64 ⟨f62, rfl, L63, HS65⟩
        refine ⟨_, rfl, ?_⟩
        refine seqS5 (a' := ⟨#[.agg #[.int .i64 vw1.Hi, .int .u64 vw1.Lo], .int .i64 d2, .pointer (some ⟨b5, 0, none⟩), undef, .int .i64 0, .int .i64 0, .pointer (some ⟨b19, 0, none⟩), .int .u64 vt59, .int .u64 vt60, undef, .int .i64 d2, .bool false, .agg #[.int .i64 vw1.Hi, .int .u64 vw1.Lo], .pointer (some ⟨b5, 0, none⟩), .int .i64 vw1.Hi, (j43 0), (j43 1), (j43 2), .pointer (some ⟨b19, 0, none⟩), .int .i64 x44, .int .u64 (u64 (x44)), .int .i64 d2, .int .u64 (u64 (d2)), .bool false, .tuple #[.int .u64 vt59, .int .u64 vt60], .pointer (some ⟨b19, 0, none⟩), .int .i64 x44, .int .u64 (u64 (x44)), .pointer (some ⟨b19, 1, none⟩), .int .u64 x45, .int .i64 d2, .int .u64 (u64 (d2)), .tuple #[.int .u64 vt59, .int .u64 vt60], .int .u64 vt59, .int .u64 vt60, undef, undef, undef, undef, undef, undef, undef, undef, undef, undef, undef, undef, undef, undef, undef, undef, undef, undef, undef, undef, undef, undef, undef, undef, undef, undef], []⟩) (by kernel_rfl) ?_
        refine wpList_nil ?_
        refine hK58 _ _ ?_
        refine wp_seq_k (fun K66 hK67 => ?_)
        refine wp_region_lit ?_
        refine seqS1 (a' := ⟨#[.agg #[.int .i64 vw1.Hi, .int .u64 vw1.Lo], .int .i64 d2, .pointer (some ⟨b5, 0, none⟩), undef, .int .i64 0, .int .i64 0, .pointer (some ⟨b19, 0, none⟩), .int .u64 vt59, .int .u64 vt60, .int .u64 9223372036854775807, .int .i64 d2, .bool false, .agg #[.int .i64 vw1.Hi, .int .u64 vw1.Lo], .pointer (some ⟨b5, 0, none⟩), .int .i64 vw1.Hi, (j43 0), (j43 1), (j43 2), .pointer (some ⟨b19, 0, none⟩), .int .i64 x44, .int .u64 (u64 (x44)), .int .i64 d2, .int .u64 (u64 (d2)), .bool false, .tuple #[.int .u64 vt59, .int .u64 vt60], .pointer (some ⟨b19, 0, none⟩), .int .i64 x44, .int .u64 (u64 (x44)), .pointer (some ⟨b19, 1, none⟩), .int .u64 x45, .int .i64 d2, .int .u64 (u64 (d2)), .tuple #[.int .u64 vt59, .int .u64 vt60], .int .u64 vt59, .int .u64 vt60, undef, undef, undef, undef, undef, undef, undef, undef, undef, undef, undef, undef, undef, undef, undef, undef, undef, undef, undef, undef, undef, undef, undef, undef, undef, undef], []⟩) (by kernel_rfl) ?_
        refine wpList_nil ?_
        refine hK67 _ _ ?_
        refine wp_seq_k (fun K68 hK69 => ?_)
        refine wp_seq_k (fun K70 hK71 => ?_)
        refine wp_region_lit ?_
        refine seqL1 (by kernel_rfl) ?_
        refine seqK rfl (does_run (run_load rfl Try.underlying2 rfl (by kernel_rfl : _ = Value.pointer (some ⟨b5, 0, none⟩)) (HS65.u1.cell 0)) ?_)
        refine seqS1 (a' := ⟨#[.agg #[.int .i64 vw1.Hi, .int .u64 vw1.Lo], .int .i64 d2, .pointer (some ⟨b5, 0, none⟩), undef, .int .i64 0, .int .i64 0, .pointer (some ⟨b19, 0, none⟩), .int .u64 vt59, .int .u64 vt60, .int .u64 9223372036854775807, .int .i64 d2, .bool false, .agg #[.int .i64 vw1.Hi, .int .u64 vw1.Lo], .pointer (some ⟨b5, 0, none⟩), .int .i64 vw1.Hi, (j43 0), (j43 1), (j43 2), .pointer (some ⟨b19, 0, none⟩), .int .i64 x44, .int .u64 (u64 (x44)), .int .i64 d2, .int .u64 (u64 (d2)), .bool false, .tuple #[.int .u64 vt59, .int .u64 vt60], .pointer (some ⟨b19, 0, none⟩), .int .i64 x44, .int .u64 (u64 (x44)), .pointer (some ⟨b19, 1, none⟩), .int .u64 x45, .int .i64 d2, .int .u64 (u64 (d2)), .tuple #[.int .u64 vt59, .int .u64 vt60], .int .u64 vt59, .int .u64 vt60, .pointer (some ⟨b5, 0, none⟩), .int .i64 vw1.Hi, .bool (decide (vw1.Hi < 0)), undef, undef, undef, undef, undef, undef, undef, undef, undef, undef, undef, undef, undef, undef, undef, undef, undef, undef, undef, undef, undef, undef, undef], []⟩) (by kernel_rfl) ?_
        refine wpList_nil ?_
        refine hK71 _ _ ?_
        have hq_ := bind_some h; clear h; obtain ⟨v72, hv95, h⟩ := hq_
        have J96 : ∀ (f89 : FM) (most94 : Int) (j93 : Nat → Value) (W91 : World) (a_ : Act), FM.le f62 f89 → some (most94) = some v72 → St t W91 f89 ([(b19, .cells #[.int .i64 x44, .int .u64 x45] 126 (0, 0))] :: [(b5, .cells #[.int .i64 vw1.Hi, .int .u64 vw1.Lo] 126 (0, 0))] :: H) → a_ = ⟨#[.agg #[.int .i64 vw1.Hi, .int .u64 vw1.Lo], .int .i64 d2, .pointer (some ⟨b5, 0, none⟩), undef, .int .i64 0, .int .i64 0, .pointer (some ⟨b19, 0, none⟩), .int .u64 vt59, .int .u64 vt60, .int .u64 most94, .int .i64 d2, .bool false, .agg #[.int .i64 vw1.Hi, .int .u64 vw1.Lo], .pointer (some ⟨b5, 0, none⟩), .int .i64 vw1.Hi, (j43 0), (j43 1), (j43 2), .pointer (some ⟨b19, 0, none⟩), .int .i64 x44, .int .u64 (u64 (x44)), .int .i64 d2, .int .u64 (u64 (d2)), .bool false, .tuple #[.int .u64 vt59, .int .u64 vt60], .pointer (some ⟨b19, 0, none⟩), .int .i64 x44, .int .u64 (u64 (x44)), .pointer (some ⟨b19, 1, none⟩), .int .u64 x45, .int .i64 d2, .int .u64 (u64 (d2)), .tuple #[.int .u64 vt59, .int .u64 vt60], .int .u64 vt59, .int .u64 vt60, .pointer (some ⟨b5, 0, none⟩), .int .i64 vw1.Hi, (j93 0), (j93 1), (j93 2), (j93 3), (j93 4), undef, undef, undef, undef, undef, undef, undef, undef, undef, undef, undef, undef, undef, undef, undef, undef, undef, undef, undef], []⟩ → K68 a_ W91 := by
          intro f89 most94 j93 W91 a_ L90 hj97 HS92  hfr_; subst hfr_
          injection hj97 with hj97; subst hj97; try dsimp only at h
          refine hK69 _ _ ?_
          refine wp_seq_k (fun K98 hK99 => ?_)
          refine wp_seq_k (fun K100 hK101 => ?_)
          refine wp_region_lit ?_
          refine seqS3 (a' := ⟨#[.agg #[.int .i64 vw1.Hi, .int .u64 vw1.Lo], .int .i64 d2, .pointer (some ⟨b5, 0, none⟩), undef, .int .i64 0, .int .i64 0, .pointer (some ⟨b19, 0, none⟩), .int .u64 vt59, .int .u64 vt60, .int .u64 most94, .int .i64 d2, .bool false, .agg #[.int .i64 vw1.Hi, .int .u64 vw1.Lo], .pointer (some ⟨b5, 0, none⟩), .int .i64 vw1.Hi, (j43 0), (j43 1), (j43 2), .pointer (some ⟨b19, 0, none⟩), .int .i64 x44, .int .u64 (u64 (x44)), .int .i64 d2, .int .u64 (u64 (d2)), .bool false, .tuple #[.int .u64 vt59, .int .u64 vt60], .pointer (some ⟨b19, 0, none⟩), .int .i64 x44, .int .u64 (u64 (x44)), .pointer (some ⟨b19, 1, none⟩), .int .u64 x45, .int .i64 d2, .int .u64 (u64 (d2)), .tuple #[.int .u64 vt59, .int .u64 vt60], .int .u64 vt59, .int .u64 vt60, .pointer (some ⟨b5, 0, none⟩), .int .i64 vw1.Hi, (j93 0), (j93 1), (j93 2), (j93 3), (j93 4), .int .u64 vt59, .int .u64 most94, .bool (decide (vt59 > most94)), undef, undef, undef, undef, undef, undef, undef, undef, undef, undef, undef, undef, undef, undef, undef, undef], []⟩) (by kernel_rfl) ?_
          refine wpList_nil ?_
          refine hK101 _ _ ?_
          have hq_ := ite_some h; clear h; rcases hq_ with ⟨c103, h⟩ | ⟨c103, h⟩
          · have c103 : vt59 > most94 := c103
            refine wpRwI 44 (x := (decide (vt59 > most94))) (v := true) (by kernel_rfl) (decide_eq_true c103) ?_
            refine condT (by kernel_rfl) ?_
            refine wp_seq_k (fun K104 hK105 => ?_)
            refine wp_region_lit ?_
            refine seqS2 (a' := ⟨#[.agg #[.int .i64 vw1.Hi, .int .u64 vw1.Lo], .int .i64 d2, .pointer (some ⟨b5, 0, none⟩), undef, .int .i64 0, .int .i64 2, .pointer (some ⟨b19, 0, none⟩), .int .u64 vt59, .int .u64 vt60, .int .u64 most94, .int .i64 d2, .bool false, .agg #[.int .i64 vw1.Hi, .int .u64 vw1.Lo], .pointer (some ⟨b5, 0, none⟩), .int .i64 vw1.Hi, (j43 0), (j43 1), (j43 2), .pointer (some ⟨b19, 0, none⟩), .int .i64 x44, .int .u64 (u64 (x44)), .int .i64 d2, .int .u64 (u64 (d2)), .bool false, .tuple #[.int .u64 vt59, .int .u64 vt60], .pointer (some ⟨b19, 0, none⟩), .int .i64 x44, .int .u64 (u64 (x44)), .pointer (some ⟨b19, 1, none⟩), .int .u64 x45, .int .i64 d2, .int .u64 (u64 (d2)), .tuple #[.int .u64 vt59, .int .u64 vt60], .int .u64 vt59, .int .u64 vt60, .pointer (some ⟨b5, 0, none⟩), .int .i64 vw1.Hi, (j93 0), (j93 1), (j93 2), (j93 3), (j93 4), .int .u64 vt59, .int .u64 most94, .bool true, undef, undef, undef, undef, undef, undef, undef, undef, undef, undef, undef, undef, undef, undef, undef, undef], []⟩) (by kernel_rfl) ?_
            refine wpList_nil ?_
            refine hK105 _ _ ?_
            refine wp_ret ?_
            refine hret _ _ ?_
            refine ends_still (v := Value.tuple #[.int .i64 0, .int .i64 2]) (by kernel_rfl) (by kernel_rfl) ?_
            have HS132 := HS92.drop
            have HS133 := HS132.drop
            injection h with h
            injection h with h0_ h
            subst h0_ h
            exact ⟨f89, rfl, (L40.trans (L63.trans L90)), HS133⟩
          · have c103 : ¬ (vt59 > most94) := c103
            refine wpRwI 44 (x := (decide (vt59 > most94))) (v := false) (by kernel_rfl) (decide_eq_false c103) ?_
            refine condF (by kernel_rfl) ?_
            refine wp_skip ?_
            refine hK99 _ _ ?_
            refine wp_seq_k (fun K106 hK107 => ?_)
            refine blockK (fun B108 hx109 hn110 hr111 ho112 hp113 => ?_)
            refine wp_seq_k (fun K115 hK116 => ?_)
            refine wp_region_lit ?_
            refine seqL1 (by kernel_rfl) ?_
            refine seqK rfl (does_run (run_load rfl Try.underlying2 rfl (by kernel_rfl : _ = Value.pointer (some ⟨b5, 0, none⟩)) (HS92.u1.cell 0)) ?_)
            refine seqS2 (a' := ⟨#[.agg #[.int .i64 vw1.Hi, .int .u64 vw1.Lo], .int .i64 d2, .pointer (some ⟨b5, 0, none⟩), undef, .int .i64 0, .int .i64 0, .pointer (some ⟨b19, 0, none⟩), .int .u64 vt59, .int .u64 vt60, .int .u64 most94, .int .i64 d2, .bool false, .agg #[.int .i64 vw1.Hi, .int .u64 vw1.Lo], .pointer (some ⟨b5, 0, none⟩), .int .i64 vw1.Hi, (j43 0), (j43 1), (j43 2), .pointer (some ⟨b19, 0, none⟩), .int .i64 x44, .int .u64 (u64 (x44)), .int .i64 d2, .int .u64 (u64 (d2)), .bool false, .tuple #[.int .u64 vt59, .int .u64 vt60], .pointer (some ⟨b19, 0, none⟩), .int .i64 x44, .int .u64 (u64 (x44)), .pointer (some ⟨b19, 1, none⟩), .int .u64 x45, .int .i64 d2, .int .u64 (u64 (d2)), .tuple #[.int .u64 vt59, .int .u64 vt60], .int .u64 vt59, .int .u64 vt60, .pointer (some ⟨b5, 0, none⟩), .int .i64 vw1.Hi, (j93 0), (j93 1), (j93 2), (j93 3), (j93 4), .int .u64 vt59, .int .u64 most94, .bool false, .bool (decide (vw1.Hi ≥ 0)), .pointer (some ⟨b5, 0, none⟩), .int .i64 vw1.Hi, .bool (decide (vw1.Hi ≥ 0)), undef, undef, undef, undef, undef, undef, undef, undef, undef, undef, undef, undef], []⟩) (by kernel_rfl) ?_
            refine wpList_nil ?_
            refine hK116 _ _ ?_
            have hq_ := ite_some h; clear h; rcases hq_ with ⟨c118, h⟩ | ⟨c118, h⟩
            · have c118 : vw1.Hi ≥ 0 := c118
              refine wpRwI 45 (x := (decide (vw1.Hi ≥ 0))) (v := true) (by kernel_rfl) (decide_eq_true c118) ?_
              refine wpRwI 48 (x := (decide (vw1.Hi ≥ 0))) (v := true) (by kernel_rfl) (decide_eq_true c118) ?_
              refine condT (by kernel_rfl) ?_
              refine wp_seq_k (fun K119 hK120 => ?_)
              refine wp_region_lit ?_
              refine seqS4 (a' := ⟨#[.agg #[.int .i64 vw1.Hi, .int .u64 vw1.Lo], .int .i64 d2, .pointer (some ⟨b5, 0, none⟩), undef, .int .i64 (w64 (vt59)), .int .i64 0, .pointer (some ⟨b19, 0, none⟩), .int .u64 vt59, .int .u64 vt60, .int .u64 most94, .int .i64 d2, .bool false, .agg #[.int .i64 vw1.Hi, .int .u64 vw1.Lo], .pointer (some ⟨b5, 0, none⟩), .int .i64 vw1.Hi, (j43 0), (j43 1), (j43 2), .pointer (some ⟨b19, 0, none⟩), .int .i64 x44, .int .u64 (u64 (x44)), .int .i64 d2, .int .u64 (u64 (d2)), .bool false, .tuple #[.int .u64 vt59, .int .u64 vt60], .pointer (some ⟨b19, 0, none⟩), .int .i64 x44, .int .u64 (u64 (x44)), .pointer (some ⟨b19, 1, none⟩), .int .u64 x45, .int .i64 d2, .int .u64 (u64 (d2)), .tuple #[.int .u64 vt59, .int .u64 vt60], .int .u64 vt59, .int .u64 vt60, .pointer (some ⟨b5, 0, none⟩), .int .i64 vw1.Hi, (j93 0), (j93 1), (j93 2), (j93 3), (j93 4), .int .u64 vt59, .int .u64 most94, .bool false, .bool true, .pointer (some ⟨b5, 0, none⟩), .int .i64 vw1.Hi, .bool true, .int .u64 vt59, .int .i64 (w64 (vt59)), undef, undef, undef, undef, undef, undef, undef, undef, undef, undef], []⟩) (by kernel_rfl) ?_
              refine wpList_nil ?_
              refine hK120 _ _ ?_
              refine wp_ret ?_
              refine hr111 _ _ ?_
              refine hret _ _ ?_
              refine ends_still (v := Value.tuple #[.int .i64 (w64 (vt59)), .int .i64 0]) (by kernel_rfl) (by kernel_rfl) ?_
              have HS134 := HS92.drop
              have HS135 := HS134.drop
              injection h with h
              injection h with h0_ h
              subst h0_ h
              exact ⟨f89, rfl, (L40.trans (L63.trans L90)), HS135⟩
            · have c118 : ¬ (vw1.Hi ≥ 0) := c118
              refine wpRwI 45 (x := (decide (vw1.Hi ≥ 0))) (v := false) (by kernel_rfl) (decide_eq_false c118) ?_
              refine wpRwI 48 (x := (decide (vw1.Hi ≥ 0))) (v := false) (by kernel_rfl) (decide_eq_false c118) ?_
              refine condF (by kernel_rfl) ?_
              refine wp_seq_k (fun K121 hK122 => ?_)
              refine wp_region_lit ?_
              refine seqS3 (a' := ⟨#[.agg #[.int .i64 vw1.Hi, .int .u64 vw1.Lo], .int .i64 d2, .pointer (some ⟨b5, 0, none⟩), undef, .int .i64 0, .int .i64 0, .pointer (some ⟨b19, 0, none⟩), .int .u64 vt59, .int .u64 vt60, .int .u64 most94, .int .i64 d2, .bool false, .agg #[.int .i64 vw1.Hi, .int .u64 vw1.Lo], .pointer (some ⟨b5, 0, none⟩), .int .i64 vw1.Hi, (j43 0), (j43 1), (j43 2), .pointer (some ⟨b19, 0, none⟩), .int .i64 x44, .int .u64 (u64 (x44)), .int .i64 d2, .int .u64 (u64 (d2)), .bool false, .tuple #[.int .u64 vt59, .int .u64 vt60], .pointer (some ⟨b19, 0, none⟩), .int .i64 x44, .int .u64 (u64 (x44)), .pointer (some ⟨b19, 1, none⟩), .int .u64 x45, .int .i64 d2, .int .u64 (u64 (d2)), .tuple #[.int .u64 vt59, .int .u64 vt60], .int .u64 vt59, .int .u64 vt60, .pointer (some ⟨b5, 0, none⟩), .int .i64 vw1.Hi, (j93 0), (j93 1), (j93 2), (j93 3), (j93 4), .int .u64 vt59, .int .u64 most94, .bool false, .bool false, .pointer (some ⟨b5, 0, none⟩), .int .i64 vw1.Hi, .bool false, undef, undef, .bool (decide (vt60 > 0)), .int .u64 vt60, .bool (decide (vt60 > 0)), undef, undef, undef, undef, undef, undef, undef], []⟩) (by kernel_rfl) ?_
              refine wpList_nil ?_
              refine hK122 _ _ ?_
              have hq_ := ite_some h; clear h; rcases hq_ with ⟨c124, h⟩ | ⟨c124, h⟩
              · have c124 : vt60 > 0 := c124
                refine wpRwI 51 (x := (decide (vt60 > 0))) (v := true) (by kernel_rfl) (decide_eq_true c124) ?_
                refine wpRwI 53 (x := (decide (vt60 > 0))) (v := true) (by kernel_rfl) (decide_eq_true c124) ?_
                refine condT (by kernel_rfl) ?_
                refine wp_seq_k (fun K125 hK126 => ?_)
                refine wp_region_lit ?_
                refine seqS6 (a' := ⟨#[.agg #[.int .i64 vw1.Hi, .int .u64 vw1.Lo], .int .i64 d2, .pointer (some ⟨b5, 0, none⟩), undef, .int .i64 (w64 ((w64 (u64 (0 - vt59))) - 1)), .int .i64 0, .pointer (some ⟨b19, 0, none⟩), .int .u64 vt59, .int .u64 vt60, .int .u64 most94, .int .i64 d2, .bool false, .agg #[.int .i64 vw1.Hi, .int .u64 vw1.Lo], .pointer (some ⟨b5, 0, none⟩), .int .i64 vw1.Hi, (j43 0), (j43 1), (j43 2), .pointer (some ⟨b19, 0, none⟩), .int .i64 x44, .int .u64 (u64 (x44)), .int .i64 d2, .int .u64 (u64 (d2)), .bool false, .tuple #[.int .u64 vt59, .int .u64 vt60], .pointer (some ⟨b19, 0, none⟩), .int .i64 x44, .int .u64 (u64 (x44)), .pointer (some ⟨b19, 1, none⟩), .int .u64 x45, .int .i64 d2, .int .u64 (u64 (d2)), .tuple #[.int .u64 vt59, .int .u64 vt60], .int .u64 vt59, .int .u64 vt60, .pointer (some ⟨b5, 0, none⟩), .int .i64 vw1.Hi, (j93 0), (j93 1), (j93 2), (j93 3), (j93 4), .int .u64 vt59, .int .u64 most94, .bool false, .bool false, .pointer (some ⟨b5, 0, none⟩), .int .i64 vw1.Hi, .bool false, undef, undef, .bool true, .int .u64 vt60, .bool true, .int .u64 vt59, .int .u64 (u64 (0 - vt59)), .int .i64 (w64 (u64 (0 - vt59))), .int .i64 (w64 ((w64 (u64 (0 - vt59))) - 1)), undef, undef, undef], []⟩) (by kernel_rfl) ?_
                refine wpList_nil ?_
                refine hK126 _ _ ?_
                refine wp_ret ?_
                refine hr111 _ _ ?_
                refine hret _ _ ?_
                refine ends_still (v := Value.tuple #[.int .i64 (w64 ((w64 (u64 (0 - vt59))) - 1)), .int .i64 0]) (by kernel_rfl) (by kernel_rfl) ?_
                have HS136 := HS92.drop
                have HS137 := HS136.drop
                injection h with h
                injection h with h0_ h
                subst h0_ h
                exact ⟨f89, rfl, (L40.trans (L63.trans L90)), HS137⟩
              · have c124 : ¬ (vt60 > 0) := c124
                refine wpRwI 51 (x := (decide (vt60 > 0))) (v := false) (by kernel_rfl) (decide_eq_false c124) ?_
                refine wpRwI 53 (x := (decide (vt60 > 0))) (v := false) (by kernel_rfl) (decide_eq_false c124) ?_
                refine condF (by kernel_rfl) ?_
                refine wp_skip ?_
                refine hn110 _ _ ?_
                refine hK107 _ _ ?_
                refine wp_seq_k (fun K127 hK128 => ?_)
                refine wp_region_lit ?_
                refine seqS5 (a' := ⟨#[.agg #[.int .i64 vw1.Hi, .int .u64 vw1.Lo], .int .i64 d2, .pointer (some ⟨b5, 0, none⟩), undef, .int .i64 (w64 (u64 (0 - vt59))), .int .i64 0, .pointer (some ⟨b19, 0, none⟩), .int .u64 vt59, .int .u64 vt60, .int .u64 most94, .int .i64 d2, .bool false, .agg #[.int .i64 vw1.Hi, .int .u64 vw1.Lo], .pointer (some ⟨b5, 0, none⟩), .int .i64 vw1.Hi, (j43 0), (j43 1), (j43 2), .pointer (some ⟨b19, 0, none⟩), .int .i64 x44, .int .u64 (u64 (x44)), .int .i64 d2, .int .u64 (u64 (d2)), .bool false, .tuple #[.int .u64 vt59, .int .u64 vt60], .pointer (some ⟨b19, 0, none⟩), .int .i64 x44, .int .u64 (u64 (x44)), .pointer (some ⟨b19, 1, none⟩), .int .u64 x45, .int .i64 d2, .int .u64 (u64 (d2)), .tuple #[.int .u64 vt59, .int .u64 vt60], .int .u64 vt59, .int .u64 vt60, .pointer (some ⟨b5, 0, none⟩), .int .i64 vw1.Hi, (j93 0), (j93 1), (j93 2), (j93 3), (j93 4), .int .u64 vt59, .int .u64 most94, .bool false, .bool false, .pointer (some ⟨b5, 0, none⟩), .int .i64 vw1.Hi, .bool false, undef, undef, .bool false, .int .u64 vt60, .bool false, undef, undef, undef, undef, .int .u64 vt59, .int .u64 (u64 (0 - vt59)), .int .i64 (w64 (u64 (0 - vt59)))], []⟩) (by kernel_rfl) ?_
                refine wpList_nil ?_
                refine hK128 _ _ ?_
                refine wp_ret ?_
                refine hret _ _ ?_
                refine ends_still (v := Value.tuple #[.int .i64 (w64 (u64 (0 - vt59))), .int .i64 0]) (by kernel_rfl) (by kernel_rfl) ?_
                have HS138 := HS92.drop
                have HS139 := HS138.drop
                injection h with h
                injection h with h0_ h
                subst h0_ h
                exact ⟨f89, rfl, (L40.trans (L63.trans L90)), HS139⟩
        clear h; have h := hv95; clear hv95
        have hq_ := ite_some h; clear h; rcases hq_ with ⟨c73, h⟩ | ⟨c73, h⟩
        · have c73 : vw1.Hi < 0 := c73
          refine wpRwI 37 (x := (decide (vw1.Hi < 0))) (v := true) (by kernel_rfl) (decide_eq_true c73) ?_
          refine condT (by kernel_rfl) ?_
          refine wp_seq_k (fun K74 hK75 => ?_)
          refine wp_region_lit ?_
          refine seqS1 (a' := ⟨#[.agg #[.int .i64 vw1.Hi, .int .u64 vw1.Lo], .int .i64 d2, .pointer (some ⟨b5, 0, none⟩), undef, .int .i64 0, .int .i64 0, .pointer (some ⟨b19, 0, none⟩), .int .u64 vt59, .int .u64 vt60, .int .u64 9223372036854775808, .int .i64 d2, .bool false, .agg #[.int .i64 vw1.Hi, .int .u64 vw1.Lo], .pointer (some ⟨b5, 0, none⟩), .int .i64 vw1.Hi, (j43 0), (j43 1), (j43 2), .pointer (some ⟨b19, 0, none⟩), .int .i64 x44, .int .u64 (u64 (x44)), .int .i64 d2, .int .u64 (u64 (d2)), .bool false, .tuple #[.int .u64 vt59, .int .u64 vt60], .pointer (some ⟨b19, 0, none⟩), .int .i64 x44, .int .u64 (u64 (x44)), .pointer (some ⟨b19, 1, none⟩), .int .u64 x45, .int .i64 d2, .int .u64 (u64 (d2)), .tuple #[.int .u64 vt59, .int .u64 vt60], .int .u64 vt59, .int .u64 vt60, .pointer (some ⟨b5, 0, none⟩), .int .i64 vw1.Hi, .bool true, undef, undef, undef, undef, undef, undef, undef, undef, undef, undef, undef, undef, undef, undef, undef, undef, undef, undef, undef, undef, undef, undef, undef], []⟩) (by kernel_rfl) ?_
          refine wpList_nil ?_
          refine hK75 _ _ ?_
          refine wp_seq_k (fun K76 hK77 => ?_)
          refine wp_region_lit ?_
          refine seqS2 (a' := ⟨#[.agg #[.int .i64 vw1.Hi, .int .u64 vw1.Lo], .int .i64 d2, .pointer (some ⟨b5, 0, none⟩), undef, .int .i64 0, .int .i64 0, .pointer (some ⟨b19, 0, none⟩), .int .u64 vt59, .int .u64 vt60, .int .u64 9223372036854775808, .int .i64 d2, .bool false, .agg #[.int .i64 vw1.Hi, .int .u64 vw1.Lo], .pointer (some ⟨b5, 0, none⟩), .int .i64 vw1.Hi, (j43 0), (j43 1), (j43 2), .pointer (some ⟨b19, 0, none⟩), .int .i64 x44, .int .u64 (u64 (x44)), .int .i64 d2, .int .u64 (u64 (d2)), .bool false, .tuple #[.int .u64 vt59, .int .u64 vt60], .pointer (some ⟨b19, 0, none⟩), .int .i64 x44, .int .u64 (u64 (x44)), .pointer (some ⟨b19, 1, none⟩), .int .u64 x45, .int .i64 d2, .int .u64 (u64 (d2)), .tuple #[.int .u64 vt59, .int .u64 vt60], .int .u64 vt59, .int .u64 vt60, .pointer (some ⟨b5, 0, none⟩), .int .i64 vw1.Hi, .bool true, .int .u64 vt60, .bool (decide (vt60 > 0)), undef, undef, undef, undef, undef, undef, undef, undef, undef, undef, undef, undef, undef, undef, undef, undef, undef, undef, undef, undef, undef], []⟩) (by kernel_rfl) ?_
          refine wpList_nil ?_
          refine hK77 _ _ ?_
          have hq_ := bind_some h; clear h; obtain ⟨v78, hv86, h⟩ := hq_
          have J87 : ∀ (f80 : FM) (most85 : Int) (j84 : Nat → Value) (W82 : World) (a_ : Act), FM.le f62 f80 → some (most85) = some v78 → St t W82 f80 ([(b19, .cells #[.int .i64 x44, .int .u64 x45] 126 (0, 0))] :: [(b5, .cells #[.int .i64 vw1.Hi, .int .u64 vw1.Lo] 126 (0, 0))] :: H) → a_ = ⟨#[.agg #[.int .i64 vw1.Hi, .int .u64 vw1.Lo], .int .i64 d2, .pointer (some ⟨b5, 0, none⟩), undef, .int .i64 0, .int .i64 0, .pointer (some ⟨b19, 0, none⟩), .int .u64 vt59, .int .u64 vt60, .int .u64 most85, .int .i64 d2, .bool false, .agg #[.int .i64 vw1.Hi, .int .u64 vw1.Lo], .pointer (some ⟨b5, 0, none⟩), .int .i64 vw1.Hi, (j43 0), (j43 1), (j43 2), .pointer (some ⟨b19, 0, none⟩), .int .i64 x44, .int .u64 (u64 (x44)), .int .i64 d2, .int .u64 (u64 (d2)), .bool false, .tuple #[.int .u64 vt59, .int .u64 vt60], .pointer (some ⟨b19, 0, none⟩), .int .i64 x44, .int .u64 (u64 (x44)), .pointer (some ⟨b19, 1, none⟩), .int .u64 x45, .int .i64 d2, .int .u64 (u64 (d2)), .tuple #[.int .u64 vt59, .int .u64 vt60], .int .u64 vt59, .int .u64 vt60, .pointer (some ⟨b5, 0, none⟩), .int .i64 vw1.Hi, .bool true, .int .u64 vt60, (j84 0), (j84 1), (j84 2), undef, undef, undef, undef, undef, undef, undef, undef, undef, undef, undef, undef, undef, undef, undef, undef, undef, undef, undef], []⟩ → K68 a_ W82 := by
            intro f80 most85 j84 W82 a_ L81 hj88 HS83  hfr_; subst hfr_
            injection hj88 with hj88; subst hj88; try dsimp only at h
            exact J96 f80 most85 (fun i_ => [Value.bool true, Value.int .u64 vt60, (j84 0), (j84 1), (j84 2)].getD i_ undef) W82 _ L81 h HS83 (by kernel_rfl)
          clear h; have h := hv86; clear hv86
          have hq_ := ite_some h; clear h; rcases hq_ with ⟨c79, h⟩ | ⟨c79, h⟩
          · have c79 : vt60 > 0 := c79
            refine wpRwI 39 (x := (decide (vt60 > 0))) (v := true) (by kernel_rfl) (decide_eq_true c79) ?_
            refine condT (by kernel_rfl) ?_
            refine wp_region_lit ?_
            refine seqS3 (a' := ⟨#[.agg #[.int .i64 vw1.Hi, .int .u64 vw1.Lo], .int .i64 d2, .pointer (some ⟨b5, 0, none⟩), undef, .int .i64 0, .int .i64 0, .pointer (some ⟨b19, 0, none⟩), .int .u64 vt59, .int .u64 vt60, .int .u64 (u64 (9223372036854775808 - 1)), .int .i64 d2, .bool false, .agg #[.int .i64 vw1.Hi, .int .u64 vw1.Lo], .pointer (some ⟨b5, 0, none⟩), .int .i64 vw1.Hi, (j43 0), (j43 1), (j43 2), .pointer (some ⟨b19, 0, none⟩), .int .i64 x44, .int .u64 (u64 (x44)), .int .i64 d2, .int .u64 (u64 (d2)), .bool false, .tuple #[.int .u64 vt59, .int .u64 vt60], .pointer (some ⟨b19, 0, none⟩), .int .i64 x44, .int .u64 (u64 (x44)), .pointer (some ⟨b19, 1, none⟩), .int .u64 x45, .int .i64 d2, .int .u64 (u64 (d2)), .tuple #[.int .u64 vt59, .int .u64 vt60], .int .u64 vt59, .int .u64 vt60, .pointer (some ⟨b5, 0, none⟩), .int .i64 vw1.Hi, .bool true, .int .u64 vt60, .bool true, .int .u64 9223372036854775808, .int .u64 (u64 (9223372036854775808 - 1)), undef, undef, undef, undef, undef, undef, undef, undef, undef, undef, undef, undef, undef, undef, undef, undef, undef, undef, undef], []⟩) (by kernel_rfl) ?_
            refine wpList_nil ?_
            exact J87 f62 (u64 (9223372036854775808 - 1)) (fun i_ => [Value.bool true, Value.int .u64 9223372036854775808, Value.int .u64 (u64 (9223372036854775808 - 1))].getD i_ undef) W64 _ (FM.le.refl _) h HS65 (by kernel_rfl)
          · have c79 : ¬ (vt60 > 0) := c79
            refine wpRwI 39 (x := (decide (vt60 > 0))) (v := false) (by kernel_rfl) (decide_eq_false c79) ?_
            refine condF (by kernel_rfl) ?_
            refine wp_skip ?_
            exact J87 f62 9223372036854775808 (fun i_ => [Value.bool false, undef, undef].getD i_ undef) W64 _ (FM.le.refl _) h HS65 (by kernel_rfl)
        · have c73 : ¬ (vw1.Hi < 0) := c73
          refine wpRwI 37 (x := (decide (vw1.Hi < 0))) (v := false) (by kernel_rfl) (decide_eq_false c73) ?_
          refine condF (by kernel_rfl) ?_
          refine wp_skip ?_
          exact J96 f62 9223372036854775807 (fun i_ => [Value.bool false, undef, undef, undef, undef].getD i_ undef) W64 _ (FM.le.refl _) h HS65 (by kernel_rfl)
    clear h; have h := hv46; clear hv46
    have hq_ := ite_some h; clear h; rcases hq_ with ⟨c30, h⟩ | ⟨c30, h⟩
    · have c30 : vw1.Hi < 0 := c30
      refine wpRwI 15 (x := (decide (vw1.Hi < 0))) (v := true) (by kernel_rfl) (decide_eq_true c30) ?_
      refine condT (by kernel_rfl) ?_
      refine wp_region_lit ?_
      refine seqK rfl (does_run (run_loadN (n := 2) rfl Try.underlying126 rfl (by kernel_rfl) (by kernel_rfl : _ = Value.pointer (some ⟨b5, 0, none⟩)) (cs := [.int .i64 vw1.Hi, .int .u64 vw1.Lo]) rfl (HS24.u1.cells 0 2 _ rfl)) ?_)
      have hq_ := bind_some h; clear h; obtain ⟨vt31, hc32, h⟩ := hq_
      refine seqK rfl (does_call (f := 113) (args := #[.agg #[.int .i64 vw1.Hi, .int .u64 vw1.Lo]]) (by kernel_rfl) (num_Wide_Neg.calls k vw1 HS24 vt31 hc32) ?_)
      rintro _ W35 ⟨f33, rfl, L34, HS36⟩
      refine ⟨_, rfl, ?_⟩
      refine seqK rfl (does_store (n := 2) (vs := [.int .i64 vt31.Hi, .int .u64 vt31.Lo]) (cs' := #[.int .i64 vt31.Hi, .int .u64 vt31.Lo]) rfl (by kernel_rfl) (by kernel_rfl : _ = Value.pointer (some ⟨b19, 0, none⟩)) (by kernel_rfl : _ = Value.agg #[.int .i64 vt31.Hi, .int .u64 vt31.Lo]) rfl rfl (by intro u_ hu_; simp only [List.mem_cons, List.not_mem_nil, or_false] at hu_; rcases hu_ with rfl | rfl <;> rfl) HS36 (Nat.le_of_ble_eq_true rfl) (by kernel_rfl) ?_)
      intro W37 HS38
      refine wpList_nil ?_
      exact J47 f33 vt31.Hi vt31.Lo (fun i_ => [Value.bool true, Value.agg #[.int .i64 vw1.Hi, .int .u64 vw1.Lo], Value.agg #[.int .i64 vt31.Hi, .int .u64 vt31.Lo]].getD i_ undef) W37 _ L34 h HS38 (by kernel_rfl)
    · have c30 : ¬ (vw1.Hi < 0) := c30
      refine wpRwI 15 (x := (decide (vw1.Hi < 0))) (v := false) (by kernel_rfl) (decide_eq_false c30) ?_
      refine condF (by kernel_rfl) ?_
      refine wp_skip ?_
      exact J47 f vw1.Hi vw1.Lo (fun i_ => [Value.bool false, undef, undef].getD i_ undef) W23 _ (FM.le.refl _) h HS24 (by kernel_rfl)

set_option maxRecDepth 100000 in
set_option maxHeartbeats 4000000 in
theorem num_MulDiv.calls (k : Nat)  (a1 : Int) (b2 : Int) (c3 : Int) {t w : World} {f : FM} {H : List Seg} (HS : St t w f (H)) (r1 : Int) (r2 : Int) (h : num_MulDiv k a1 b2 c3 = some (r1, r2)) :
    Calls Try.prog 52 #[.int .i64 a1, .int .i64 b2, .int .i64 c3] w (fun e w' => ∃ (g : FM), e = .returned (Value.tuple #[.int .i64 r1, .int .i64 r2]) ∧ FM.le f g ∧ St t w' g (H)) := by
  unfold num_MulDiv at h
  refine enter Try.func52 rfl (tm := #[.int .i64 a1, .int .i64 b2, .int .i64 c3, undef, undef, undef, undef, undef, undef, undef, undef, undef, undef, undef, undef]) (by kernel_rfl) ?_
  intro B hret hnor hnp
  refine wp_seq_k (fun K4 hK5 => ?_)
  refine wp_region_lit ?_
  refine seqS2 (a' := ⟨#[.int .i64 a1, .int .i64 b2, .int .i64 c3, undef, undef, undef, .int .i64 0, .int .i64 0, undef, undef, undef, undef, undef, undef, undef], []⟩) (by kernel_rfl) ?_
  refine wpList_nil ?_
  refine hK5 _ _ ?_
  refine wp_seq_k (fun K6 hK7 => ?_)
  refine wp_region_lit ?_
  have hq_ := bind_some h; clear h; obtain ⟨vt8, hc9, h⟩ := hq_
  refine seqL2 (by kernel_rfl) ?_
  refine seqK rfl (does_call (f := 90) (args := #[.int .i64 a1, .int .i64 b2]) (by kernel_rfl) (num_Product.calls k a1 b2 HS vt8 hc9) ?_)
  rintro _ W12 ⟨f10, rfl, L11, HS13⟩
  refine ⟨_, rfl, ?_⟩
  have hq_ := bind_some h; clear h; obtain ⟨⟨vt14, vt15⟩, hc16, h⟩ := hq_
  refine seqL1 (by kernel_rfl) ?_
  refine seqK rfl (does_call (f := 91) (args := #[.agg #[.int .i64 vt8.Hi, .int .u64 vt8.Lo], .int .i64 c3]) (by kernel_rfl) (num_Wide_Div.calls k vt8 c3 HS13 vt14 vt15 hc16) ?_)
  rintro _ W19 ⟨f17, rfl, L18, HS20⟩
  refine ⟨_, rfl, ?_⟩
  refine seqS4 (a' := ⟨#[.int .i64 a1, .int .i64 b2, .int .i64 c3, undef, undef, undef, .int .i64 vt14, .int .i64 vt15, .int .i64 a1, .int .i64 b2, .agg #[.int .i64 vt8.Hi, .int .u64 vt8.Lo], .int .i64 c3, .tuple #[.int .i64 vt14, .int .i64 vt15], .int .i64 vt14, .int .i64 vt15], []⟩) (by kernel_rfl) ?_
  refine wpList_nil ?_
  refine hK7 _ _ ?_
  refine wp_ret ?_
  refine hret _ _ ?_
  refine ends_still (v := Value.tuple #[.int .i64 vt14, .int .i64 vt15]) (by kernel_rfl) (by kernel_rfl) ?_
  injection h with h
  injection h with h0_ h
  subst h0_ h
  exact ⟨f17, rfl, (L11.trans L18), HS20⟩

set_option maxRecDepth 100000 in
set_option maxHeartbeats 4000000 in
theorem bound_Mul_Light_1.calls (k : Nat) (b1 : Nat) (v3 : Int) (x4 : Int) (y5 : Int) {t w : World} {f : FM} {H : List Seg} (HS : St t w f ([(b1, .cells #[.int .i64 v3] 2 (0, 0))] :: H)) (r1 : Int) (r2 : Int) (h : bound_Mul_Light_1 k v3 x4 y5 = some (r1, r2)) :
    Calls Try.prog 110 #[.int .i64 x4, .int .i64 y5, .pointer (some ⟨b1, 0, none⟩)] w (fun e w' => ∃ (g : FM), e = .returned (Value.tuple #[.int .i64 r1, .int .i64 r2]) ∧ FM.le f g ∧ St t w' g ([(b1, .cells #[.int .i64 v3] 2 (0, 0))] :: H)) := by
  unfold bound_Mul_Light_1 at h
  refine enter Try.func110 rfl (tm := #[.int .i64 x4, .int .i64 y5, .pointer (some ⟨b1, 0, none⟩), undef, undef, undef, undef, undef, undef, undef, undef, undef, undef]) (by kernel_rfl) ?_
  intro B hret hnor hnp
  refine wp_seq_k (fun K6 hK7 => ?_)
  refine wp_region_lit ?_
  refine seqS2 (a' := ⟨#[.int .i64 x4, .int .i64 y5, .pointer (some ⟨b1, 0, none⟩), undef, undef, .int .i64 0, .int .i64 0, undef, undef, undef, undef, undef, undef], []⟩) (by kernel_rfl) ?_
  refine wpList_nil ?_
  refine hK7 _ _ ?_
  refine wp_seq_k (fun K8 hK9 => ?_)
  refine wp_region_lit ?_
  refine seqL2 (by kernel_rfl) ?_
  refine seqK rfl (does_run (run_load rfl Try.underlying2 rfl (by kernel_rfl : _ = Value.pointer (some ⟨b1, 0, none⟩)) (HS.cell 0)) ?_)
  have hq_ := bind_some h; clear h; obtain ⟨⟨vt10, vt11⟩, hc12, h⟩ := hq_
  refine seqK rfl (does_call (f := 52) (args := #[.int .i64 x4, .int .i64 y5, .int .i64 v3]) (by kernel_rfl) (num_MulDiv.calls k x4 y5 v3 HS vt10 vt11 hc12) ?_)
  rintro _ W15 ⟨f13, rfl, L14, HS16⟩
  refine ⟨_, rfl, ?_⟩
  refine seqS4 (a' := ⟨#[.int .i64 x4, .int .i64 y5, .pointer (some ⟨b1, 0, none⟩), undef, undef, .int .i64 vt10, .int .i64 vt11, .int .i64 x4, .int .i64 y5, .int .i64 v3, .tuple #[.int .i64 vt10, .int .i64 vt11], .int .i64 vt10, .int .i64 vt11], []⟩) (by kernel_rfl) ?_
  refine wpList_nil ?_
  refine hK9 _ _ ?_
  refine wp_ret ?_
  refine hret _ _ ?_
  refine ends_still (v := Value.tuple #[.int .i64 vt10, .int .i64 vt11]) (by kernel_rfl) (by kernel_rfl) ?_
  injection h with h
  injection h with h0_ h
  subst h0_ h
  exact ⟨f13, rfl, L14, HS16⟩

set_option maxRecDepth 100000 in
set_option maxHeartbeats 4000000 in
theorem num_Wide_Mod.calls (k : Nat)  (vw1 : S_Wide) (d2 : Int) {t w : World} {f : FM} {H : List Seg} (HS : St t w f (H)) (r1 : Int) (h : num_Wide_Mod k vw1 d2 = some r1) :
    Calls Try.prog 92 #[.agg #[.int .i64 vw1.Hi, .int .u64 vw1.Lo], .int .i64 d2] w (fun e w' => ∃ (g : FM), e = .returned (Value.int .i64 r1) ∧ FM.le f g ∧ St t w' g (H)) := by
  unfold num_Wide_Mod at h
  refine enter Try.func92 rfl (tm := #[.agg #[.int .i64 vw1.Hi, .int .u64 vw1.Lo], .int .i64 d2, undef, undef, undef, undef, undef, undef, undef, undef, undef, undef, undef, undef, undef, undef, undef, undef, undef, undef, undef, undef, undef, undef, undef, undef, undef, undef, undef, undef, undef, undef, undef, undef, undef, undef, undef, undef, undef, undef, undef, undef, undef]) (by kernel_rfl) ?_
  intro B hret hnor hnp
  refine wp_seq_k (fun K3 hK4 => ?_)
  refine wp_region_lit ?_
  refine seqK rfl (does_box (cs := #[.int .i64 vw1.Hi, .int .u64 vw1.Lo]) rfl (by kernel_rfl : _ = Value.agg #[.int .i64 vw1.Hi, .int .u64 vw1.Lo]) rfl HS ?_)
  intro b5 W6 HS7
  refine seqS1 (a' := ⟨#[.agg #[.int .i64 vw1.Hi, .int .u64 vw1.Lo], .int .i64 d2, .pointer (some ⟨b5, 0, none⟩), undef, .int .i64 0, undef, undef, undef, undef, undef, undef, undef, undef, undef, undef, undef, undef, undef, undef, undef, undef, undef, undef, undef, undef, undef, undef, undef, undef, undef, undef, undef, undef, undef, undef, undef, undef, undef, undef, undef, undef, undef, undef], []⟩) (by kernel_rfl) ?_
  refine wpList_nil ?_
  refine hK4 _ _ ?_
  refine wp_seq_k (fun K9 hK10 => ?_)
  refine wp_seq_k (fun K11 hK12 => ?_)
  refine wp_region_lit ?_
  refine seqS2 (a' := ⟨#[.agg #[.int .i64 vw1.Hi, .int .u64 vw1.Lo], .int .i64 d2, .pointer (some ⟨b5, 0, none⟩), undef, .int .i64 0, undef, undef, undef, .int .i64 d2, .bool (decide (d2 < 1)), undef, undef, undef, undef, undef, undef, undef, undef, undef, undef, undef, undef, undef, undef, undef, undef, undef, undef, undef, undef, undef, undef, undef, undef, undef, undef, undef, undef, undef, undef, undef, undef, undef], []⟩) (by kernel_rfl) ?_
  refine wpList_nil ?_
  refine hK12 _ _ ?_
  have hq_ := ite_some h; clear h; rcases hq_ with ⟨c14, h⟩ | ⟨c14, h⟩
  · have c14 : d2 < 1 := c14
    refine wpRwI 9 (x := (decide (d2 < 1))) (v := true) (by kernel_rfl) (decide_eq_true c14) ?_
    refine condT (by kernel_rfl) ?_
    refine wp_seq_k (fun K15 hK16 => ?_)
    refine wp_region_lit ?_
    refine seqS1 (a' := ⟨#[.agg #[.int .i64 vw1.Hi, .int .u64 vw1.Lo], .int .i64 d2, .pointer (some ⟨b5, 0, none⟩), undef, .int .i64 0, undef, undef, undef, .int .i64 d2, .bool true, undef, undef, undef, undef, undef, undef, undef, undef, undef, undef, undef, undef, undef, undef, undef, undef, undef, undef, undef, undef, undef, undef, undef, undef, undef, undef, undef, undef, undef, undef, undef, undef, undef], []⟩) (by kernel_rfl) ?_
    refine wpList_nil ?_
    refine hK16 _ _ ?_
    refine wp_ret ?_
    refine hret _ _ ?_
    refine ends_still (v := Value.int .i64 0) (by kernel_rfl) (by kernel_rfl) ?_
    have HS74 := HS7.drop
    injection h with h
    subst h
    exact ⟨f, rfl, FM.le.refl _, HS74⟩
  · have c14 : ¬ (d2 < 1) := c14
    refine wpRwI 9 (x := (decide (d2 < 1))) (v := false) (by kernel_rfl) (decide_eq_false c14) ?_
    refine condF (by kernel_rfl) ?_
    refine wp_skip ?_
    refine hK10 _ _ ?_
    refine wp_seq_k (fun K17 hK18 => ?_)
    refine wp_region_lit ?_
    refine seqK rfl (does_run (run_loadN (n := 2) rfl Try.underlying126 rfl (by kernel_rfl) (by kernel_rfl : _ = Value.pointer (some ⟨b5, 0, none⟩)) (cs := [.int .i64 vw1.Hi, .int .u64 vw1.Lo]) rfl (HS7.cells 0 2 _ rfl)) ?_)
    refine seqK rfl (does_alloc (z := Value.agg #[.int .i64 0, .int .u64 0]) (cs := #[.int .i64 0, .int .u64 0]) rfl (by kernel_rfl) rfl HS7 ?_)
    intro b19 W20 HS21
    refine seqK rfl (does_store (n := 2) (vs := [.int .i64 vw1.Hi, .int .u64 vw1.Lo]) (cs' := #[.int .i64 vw1.Hi, .int .u64 vw1.Lo]) rfl (by kernel_rfl) (by kernel_rfl : _ = Value.pointer (some ⟨b19, 0, none⟩)) (by kernel_rfl : _ = Value.agg #[.int .i64 vw1.Hi, .int .u64 vw1.Lo]) rfl rfl (by intro u_ hu_; simp only [List.mem_cons, List.not_mem_nil, or_false] at hu_; rcases hu_ with rfl | rfl <;> rfl) HS21 (Nat.le_of_ble_eq_true rfl) (by kernel_rfl) ?_)
    intro W23 HS24
    refine wpList_nil ?_
    refine hK18 _ _ ?_
    refine wp_seq_k (fun K25 hK26 => ?_)
    refine wp_seq_k (fun K27 hK28 => ?_)
    refine wp_region_lit ?_
    refine seqL1 (by kernel_rfl) ?_
    refine seqK rfl (does_run (run_load rfl Try.underlying2 rfl (by kernel_rfl : _ = Value.pointer (some ⟨b5, 0, none⟩)) (HS24.u1.cell 0)) ?_)
    refine seqS1 (a' := ⟨#[.agg #[.int .i64 vw1.Hi, .int .u64 vw1.Lo], .int .i64 d2, .pointer (some ⟨b5, 0, none⟩), undef, .int .i64 0, .pointer (some ⟨b19, 0, none⟩), undef, undef, .int .i64 d2, .bool false, .agg #[.int .i64 vw1.Hi, .int .u64 vw1.Lo], .pointer (some ⟨b5, 0, none⟩), .int .i64 vw1.Hi, .bool (decide (vw1.Hi < 0)), undef, undef, undef, undef, undef, undef, undef, undef, undef, undef, undef, undef, undef, undef, undef, undef, undef, undef, undef, undef, undef, undef, undef, undef, undef, undef, undef, undef, undef], []⟩) (by kernel_rfl) ?_
    refine wpList_nil ?_
    refine hK28 _ _ ?_
    have hq_ := bind_some h; clear h; obtain ⟨v29, hv46, h⟩ := hq_
    have J47 : ∀ (f39 : FM) (x44 : Int) (x45 : Int) (j43 : Nat → Value) (W41 : World) (a_ : Act), FM.le f f39 → some ((x44, x45)) = some v29 → St t W41 f39 ([(b19, .cells #[.int .i64 x44, .int .u64 x45] 126 (0, 0))] :: [(b5, .cells #[.int .i64 vw1.Hi, .int .u64 vw1.Lo] 126 (0, 0))] :: H) → a_ = ⟨#[.agg #[.int .i64 vw1.Hi, .int .u64 vw1.Lo], .int .i64 d2, .pointer (some ⟨b5, 0, none⟩), undef, .int .i64 0, .pointer (some ⟨b19, 0, none⟩), undef, undef, .int .i64 d2, .bool false, .agg #[.int .i64 vw1.Hi, .int .u64 vw1.Lo], .pointer (some ⟨b5, 0, none⟩), .int .i64 vw1.Hi, (j43 0), (j43 1), (j43 2), undef, undef, undef, undef, undef, undef, undef, undef, undef, undef, undef, undef, undef, undef, undef, undef, undef, undef, undef, undef, undef, undef, undef, undef, undef, undef, undef], []⟩ → K25 a_ W41 := by
      intro f39 x44 x45 j43 W41 a_ L40 hj48 HS42  hfr_; subst hfr_
      injection hj48 with hj48; subst hj48; try dsimp only at h
      refine hK26 _ _ ?_
      refine wp_seq_k (fun K49 hK50 => ?_)
      refine heldG (S := Sg t f39 ([(b19, .cells #[.int .i64 x44, .int .u64 x45] 126 (0, 0))] :: [(b5, .cells #[.int .i64 vw1.Hi, .int .u64 vw1.Lo] 126 (0, 0))] :: H) []) (n := 16) (by kernel_rfl) rfl HS42 ?_
      intro W51 HS52
      refine takeG [0] (n := 16) (fuel := 15) (l' := #[true, false, false, false, false, false, false, false, false, false, false, false, false, false, false, false]) (a' := ⟨#[.agg #[.int .i64 vw1.Hi, .int .u64 vw1.Lo], .int .i64 d2, .pointer (some ⟨b5, 0, none⟩), undef, .int .i64 0, .pointer (some ⟨b19, 0, none⟩), undef, undef, .int .i64 d2, .bool false, .agg #[.int .i64 vw1.Hi, .int .u64 vw1.Lo], .pointer (some ⟨b5, 0, none⟩), .int .i64 vw1.Hi, (j43 0), (j43 1), (j43 2), undef, .pointer (some ⟨b19, 0, none⟩), undef, undef, undef, undef, undef, undef, undef, undef, undef, undef, undef, undef, undef, undef, undef, undef, undef, undef, undef, undef, undef, undef, undef, undef, undef], []⟩) rfl (by kernel_rfl) (by kernel_rfl) (by kernel_rfl) hnp (Sg.g0 (Sx.of [] (FM.le.refl _) HS52)) ?_
      refine takeGQ 1 [] rfl (by kernel_rfl) (by kernel_rfl) (by kernel_rfl) (by kernel_rfl) (by kernel_rfl) (by kernel_rfl) hnp (Sg.g0 (Sx.of [] (FM.le.refl _) HS52)) (fun w_ hw_ => by obtain ⟨g_, hl_, hS_⟩ := hw_.st; exact run_load rfl Try.underlying2 rfl (by kernel_rfl : _ = Value.pointer (some ⟨b19, 0, none⟩)) (hS_.cell 0)) ?_
      have hq_ := guard_some h; clear h; obtain ⟨c53, h⟩ := hq_
      have c53 : ¬ ((u64 (d2)) = 0) := c53
      refine takeG [2, 3, 4] (n := 14) (fuel := 11) (l' := #[true, true, true, true, true, false, false, false, false, false, false, false, false, false, false, false]) (a' := ⟨#[.agg #[.int .i64 vw1.Hi, .int .u64 vw1.Lo], .int .i64 d2, .pointer (some ⟨b5, 0, none⟩), undef, .int .i64 0, .pointer (some ⟨b19, 0, none⟩), undef, undef, .int .i64 d2, .bool false, .agg #[.int .i64 vw1.Hi, .int .u64 vw1.Lo], .pointer (some ⟨b5, 0, none⟩), .int .i64 vw1.Hi, (j43 0), (j43 1), (j43 2), undef, .pointer (some ⟨b19, 0, none⟩), .int .i64 x44, .int .u64 (u64 (x44)), .int .i64 d2, .int .u64 (u64 (d2)), undef, undef, undef, undef, undef, undef, undef, undef, undef, undef, undef, undef, undef, undef, undef, undef, undef, undef, undef, undef, undef], []⟩) rfl (by kernel_rfl) (by kernel_rfl) (by kernel_rfl) hnp (Sg.g0 (Sx.of [] (FM.le.refl _) HS52)) ?_
      refine takeGQ 5 [] rfl (by kernel_rfl) (by kernel_rfl) (by kernel_rfl) (by kernel_rfl) (by kernel_rfl) (by kernel_rfl) hnp (Sg.g0 (Sx.of [] (FM.le.refl _) HS52)) (fun w_ hw_ => by obtain ⟨g_, hl_, hS_⟩ := hw_.st; exact run_rem rfl (by kernel_rfl : _ = Value.int .u64 (u64 (x44))) (by kernel_rfl : _ = Value.int .u64 (u64 (d2))) c53 w_) ?_
      refine takeG [6] (n := 10) (fuel := 9) (l' := #[true, true, true, true, true, true, true, false, false, false, false, false, false, false, false, false]) (a' := ⟨#[.agg #[.int .i64 vw1.Hi, .int .u64 vw1.Lo], .int .i64 d2, .pointer (some ⟨b5, 0, none⟩), undef, .int .i64 0, .pointer (some ⟨b19, 0, none⟩), undef, undef, .int .i64 d2, .bool false, .agg #[.int .i64 vw1.Hi, .int .u64 vw1.Lo], .pointer (some ⟨b5, 0, none⟩), .int .i64 vw1.Hi, (j43 0), (j43 1), (j43 2), undef, .pointer (some ⟨b19, 0, none⟩), .int .i64 x44, .int .u64 (u64 (x44)), .int .i64 d2, .int .u64 (u64 (d2)), .int .u64 (Int.tmod (u64 (x44)) (u64 (d2))), .pointer (some ⟨b19, 1, none⟩), undef, undef, undef, undef, undef, undef, undef, undef, undef, undef, undef, undef, undef, undef, undef, undef, undef, undef, undef], []⟩) rfl (by kernel_rfl) (by kernel_rfl) (by kernel_rfl) hnp (Sg.g0 (Sx.of [] (FM.le.refl _) HS52)) ?_
      refine takeGQ 7 [] rfl (by kernel_rfl) (by kernel_rfl) (by kernel_rfl) (by kernel_rfl) (by kernel_rfl) (by kernel_rfl) hnp (Sg.g0 (Sx.of [] (FM.le.refl _) HS52)) (fun w_ hw_ => by obtain ⟨g_, hl_, hS_⟩ := hw_.st; exact run_load rfl Try.underlying61 rfl (by kernel_rfl : _ = Value.pointer (some ⟨b19, 1, none⟩)) (hS_.cell 1)) ?_
      refine takeG [8, 9] (n := 8) (fuel := 6) (l' := #[true, true, true, true, true, true, true, true, true, true, false, false, false, false, false, false]) (a' := ⟨#[.agg #[.int .i64 vw1.Hi, .int .u64 vw1.Lo], .int .i64 d2, .pointer (some ⟨b5, 0, none⟩), undef, .int .i64 0, .pointer (some ⟨b19, 0, none⟩), undef, undef, .int .i64 d2, .bool false, .agg #[.int .i64 vw1.Hi, .int .u64 vw1.Lo], .pointer (some ⟨b5, 0, none⟩), .int .i64 vw1.Hi, (j43 0), (j43 1), (j43 2), undef, .pointer (some ⟨b19, 0, none⟩), .int .i64 x44, .int .u64 (u64 (x44)), .int .i64 d2, .int .u64 (u64 (d2)), .int .u64 (Int.tmod (u64 (x44)) (u64 (d2))), .pointer (some ⟨b19, 1, none⟩), .int .u64 x45, .int .i64 d2, .int .u64 (u64 (d2)), undef, undef, undef, undef, undef, undef, undef, undef, undef, undef, undef, undef, undef, undef, undef, undef], []⟩) rfl (by kernel_rfl) (by kernel_rfl) (by kernel_rfl) hnp (Sg.g0 (Sx.of [] (FM.le.refl _) HS52)) ?_
      have hq_ := bind_some h; clear h; obtain ⟨⟨vt54, vt55⟩, hc56, h⟩ := hq_
      refine takeGE 10 (by kernel_rfl) rfl (by kernel_rfl) (does_call (f := 114) (args := #[.int .u64 (Int.tmod (u64 (x44)) (u64 (d2))), .int .u64 x45, .int .u64 (u64 (d2))]) (by kernel_rfl) (bits_Div64.calls k (Int.tmod (u64 (x44)) (u64 (d2))) x45 (u64 (d2)) HS52 vt54 vt55 hc56) ?_)
      rintro _ W59 ⟨f57, rfl, L58, HS60⟩
      refine ⟨_, rfl, ?_⟩
      refine ⟨(Sg.g0 (Sx.of [] L58 HS60)), ?_⟩
      refine takeG [11, 12, 13, 14, 15] (n := 5) (fuel := 0) (l' := #[true, true, true, true, true, true, true, true, true, true, true, true, true, true, true, true]) (a' := ⟨#[.agg #[.int .i64 vw1.Hi, .int .u64 vw1.Lo], .int .i64 d2, .pointer (some ⟨b5, 0, none⟩), undef, .int .i64 0, .pointer (some ⟨b19, 0, none⟩), .int .u64 vt54, .int .u64 vt55, .int .i64 d2, .bool false, .agg #[.int .i64 vw1.Hi, .int .u64 vw1.Lo], .pointer (some ⟨b5, 0, none⟩), .int .i64 vw1.Hi, (j43 0), (j43 1), (j43 2), .tuple #[.int .u64 vt54, .int .u64 vt55], .pointer (some ⟨b19, 0, none⟩), .int .i64 x44, .int .u64 (u64 (x44)), .int .i64 d2, .int .u64 (u64 (d2)), .int .u64 (Int.tmod (u64 (x44)) (u64 (d2))), .pointer (some ⟨b19, 1, none⟩), .int .u64 x45, .int .i64 d2, .int .u64 (u64 (d2)), .tuple #[.int .u64 vt54, .int .u64 vt55], .int .u64 vt54, .int .u64 vt55, undef, undef, undef, undef, undef, undef, undef, undef, undef, undef, undef, undef, undef], []⟩) rfl (by kernel_rfl) (by kernel_rfl) (by kernel_rfl) hnp (Sg.g0 (Sx.of [] L58 HS60)) ?_
      refine doneG (by kernel_rfl) ?_ _
      refine hK50 _ _ ?_
      refine wp_seq_k (fun K61 hK62 => ?_)
      refine wp_seq_k (fun K63 hK64 => ?_)
      refine wp_region_lit ?_
      refine seqL1 (by kernel_rfl) ?_
      refine seqK rfl (does_run (run_load rfl Try.underlying2 rfl (by kernel_rfl : _ = Value.pointer (some ⟨b5, 0, none⟩)) (HS60.u1.cell 0)) ?_)
      refine seqS2 (a' := ⟨#[.agg #[.int .i64 vw1.Hi, .int .u64 vw1.Lo], .int .i64 d2, .pointer (some ⟨b5, 0, none⟩), undef, .int .i64 0, .pointer (some ⟨b19, 0, none⟩), .int .u64 vt54, .int .u64 vt55, .int .i64 d2, .bool false, .agg #[.int .i64 vw1.Hi, .int .u64 vw1.Lo], .pointer (some ⟨b5, 0, none⟩), .int .i64 vw1.Hi, (j43 0), (j43 1), (j43 2), .tuple #[.int .u64 vt54, .int .u64 vt55], .pointer (some ⟨b19, 0, none⟩), .int .i64 x44, .int .u64 (u64 (x44)), .int .i64 d2, .int .u64 (u64 (d2)), .int .u64 (Int.tmod (u64 (x44)) (u64 (d2))), .pointer (some ⟨b19, 1, none⟩), .int .u64 x45, .int .i64 d2, .int .u64 (u64 (d2)), .tuple #[.int .u64 vt54, .int .u64 vt55], .int .u64 vt54, .int .u64 vt55, .pointer (some ⟨b5, 0, none⟩), .int .i64 vw1.Hi, .bool (decide (vw1.Hi < 0)), .bool (decide (vw1.Hi < 0)), undef, undef, undef, undef, undef, undef, undef, undef, undef], []⟩) (by kernel_rfl) ?_
      have hq_ := ite_some h; clear h; rcases hq_ with ⟨c65, h⟩ | ⟨c65, h⟩
      · have c65 : vw1.Hi < 0 := c65
        refine seqRwI 32 (x := (decide (vw1.Hi < 0))) (v := true) (by kernel_rfl) (decide_eq_true c65) ?_
        refine seqRwI 33 (x := (decide (vw1.Hi < 0))) (v := true) (by kernel_rfl) (decide_eq_true c65) ?_
        refine seqS3 (a' := ⟨#[.agg #[.int .i64 vw1.Hi, .int .u64 vw1.Lo], .int .i64 d2, .pointer (some ⟨b5, 0, none⟩), undef, .int .i64 0, .pointer (some ⟨b19, 0, none⟩), .int .u64 vt54, .int .u64 vt55, .int .i64 d2, .bool false, .agg #[.int .i64 vw1.Hi, .int .u64 vw1.Lo], .pointer (some ⟨b5, 0, none⟩), .int .i64 vw1.Hi, (j43 0), (j43 1), (j43 2), .tuple #[.int .u64 vt54, .int .u64 vt55], .pointer (some ⟨b19, 0, none⟩), .int .i64 x44, .int .u64 (u64 (x44)), .int .i64 d2, .int .u64 (u64 (d2)), .int .u64 (Int.tmod (u64 (x44)) (u64 (d2))), .pointer (some ⟨b19, 1, none⟩), .int .u64 x45, .int .i64 d2, .int .u64 (u64 (d2)), .tuple #[.int .u64 vt54, .int .u64 vt55], .int .u64 vt54, .int .u64 vt55, .pointer (some ⟨b5, 0, none⟩), .int .i64 vw1.Hi, .bool true, .bool true, .int .u64 vt55, .bool (decide (vt55 > 0)), .bool (decide (vt55 > 0)), undef, undef, undef, undef, undef, undef], []⟩) (by kernel_rfl) ?_
        refine wpList_nil ?_
        refine hK64 _ _ ?_
        have hq_ := ite_some h; clear h; rcases hq_ with ⟨c67, h⟩ | ⟨c67, h⟩
        · have c67 : vt55 > 0 := c67
          refine wpRwI 35 (x := (decide (vt55 > 0))) (v := true) (by kernel_rfl) (decide_eq_true c67) ?_
          refine wpRwI 36 (x := (decide (vt55 > 0))) (v := true) (by kernel_rfl) (decide_eq_true c67) ?_
          refine condT (by kernel_rfl) ?_
          refine wp_region_lit ?_
          refine seqS5 (a' := ⟨#[.agg #[.int .i64 vw1.Hi, .int .u64 vw1.Lo], .int .i64 d2, .pointer (some ⟨b5, 0, none⟩), undef, .int .i64 0, .pointer (some ⟨b19, 0, none⟩), .int .u64 vt54, .int .u64 (u64 ((u64 (d2)) - vt55)), .int .i64 d2, .bool false, .agg #[.int .i64 vw1.Hi, .int .u64 vw1.Lo], .pointer (some ⟨b5, 0, none⟩), .int .i64 vw1.Hi, (j43 0), (j43 1), (j43 2), .tuple #[.int .u64 vt54, .int .u64 vt55], .pointer (some ⟨b19, 0, none⟩), .int .i64 x44, .int .u64 (u64 (x44)), .int .i64 d2, .int .u64 (u64 (d2)), .int .u64 (Int.tmod (u64 (x44)) (u64 (d2))), .pointer (some ⟨b19, 1, none⟩), .int .u64 x45, .int .i64 d2, .int .u64 (u64 (d2)), .tuple #[.int .u64 vt54, .int .u64 vt55], .int .u64 vt54, .int .u64 vt55, .pointer (some ⟨b5, 0, none⟩), .int .i64 vw1.Hi, .bool true, .bool true, .int .u64 vt55, .bool true, .bool true, .int .i64 d2, .int .u64 (u64 (d2)), .int .u64 vt55, .int .u64 (u64 ((u64 (d2)) - vt55)), undef, undef], []⟩) (by kernel_rfl) ?_
          refine wpList_nil ?_
          refine hK62 _ _ ?_
          refine wp_seq_k (fun K68 hK69 => ?_)
          refine wp_region_lit ?_
          refine seqS3 (a' := ⟨#[.agg #[.int .i64 vw1.Hi, .int .u64 vw1.Lo], .int .i64 d2, .pointer (some ⟨b5, 0, none⟩), undef, .int .i64 (w64 (u64 ((u64 (d2)) - vt55))), .pointer (some ⟨b19, 0, none⟩), .int .u64 vt54, .int .u64 (u64 ((u64 (d2)) - vt55)), .int .i64 d2, .bool false, .agg #[.int .i64 vw1.Hi, .int .u64 vw1.Lo], .pointer (some ⟨b5, 0, none⟩), .int .i64 vw1.Hi, (j43 0), (j43 1), (j43 2), .tuple #[.int .u64 vt54, .int .u64 vt55], .pointer (some ⟨b19, 0, none⟩), .int .i64 x44, .int .u64 (u64 (x44)), .int .i64 d2, .int .u64 (u64 (d2)), .int .u64 (Int.tmod (u64 (x44)) (u64 (d2))), .pointer (some ⟨b19, 1, none⟩), .int .u64 x45, .int .i64 d2, .int .u64 (u64 (d2)), .tuple #[.int .u64 vt54, .int .u64 vt55], .int .u64 vt54, .int .u64 vt55, .pointer (some ⟨b5, 0, none⟩), .int .i64 vw1.Hi, .bool true, .bool true, .int .u64 vt55, .bool true, .bool true, .int .i64 d2, .int .u64 (u64 (d2)), .int .u64 vt55, .int .u64 (u64 ((u64 (d2)) - vt55)), .int .u64 (u64 ((u64 (d2)) - vt55)), .int .i64 (w64 (u64 ((u64 (d2)) - vt55)))], []⟩) (by kernel_rfl) ?_
          refine wpList_nil ?_
          refine hK69 _ _ ?_
          refine wp_ret ?_
          refine hret _ _ ?_
          refine ends_still (v := Value.int .i64 (w64 (u64 ((u64 (d2)) - vt55)))) (by kernel_rfl) (by kernel_rfl) ?_
          have HS75 := HS60.drop
          have HS76 := HS75.drop
          injection h with h
          subst h
          exact ⟨f57, rfl, (L40.trans L58), HS76⟩
        · have c67 : ¬ (vt55 > 0) := c67
          refine wpRwI 35 (x := (decide (vt55 > 0))) (v := false) (by kernel_rfl) (decide_eq_false c67) ?_
          refine wpRwI 36 (x := (decide (vt55 > 0))) (v := false) (by kernel_rfl) (decide_eq_false c67) ?_
          refine condF (by kernel_rfl) ?_
          refine wp_skip ?_
          refine hK62 _ _ ?_
          refine wp_seq_k (fun K70 hK71 => ?_)
          refine wp_region_lit ?_
          refine seqS3 (a' := ⟨#[.agg #[.int .i64 vw1.Hi, .int .u64 vw1.Lo], .int .i64 d2, .pointer (some ⟨b5, 0, none⟩), undef, .int .i64 (w64 (vt55)), .pointer (some ⟨b19, 0, none⟩), .int .u64 vt54, .int .u64 vt55, .int .i64 d2, .bool false, .agg #[.int .i64 vw1.Hi, .int .u64 vw1.Lo], .pointer (some ⟨b5, 0, none⟩), .int .i64 vw1.Hi, (j43 0), (j43 1), (j43 2), .tuple #[.int .u64 vt54, .int .u64 vt55], .pointer (some ⟨b19, 0, none⟩), .int .i64 x44, .int .u64 (u64 (x44)), .int .i64 d2, .int .u64 (u64 (d2)), .int .u64 (Int.tmod (u64 (x44)) (u64 (d2))), .pointer (some ⟨b19, 1, none⟩), .int .u64 x45, .int .i64 d2, .int .u64 (u64 (d2)), .tuple #[.int .u64 vt54, .int .u64 vt55], .int .u64 vt54, .int .u64 vt55, .pointer (some ⟨b5, 0, none⟩), .int .i64 vw1.Hi, .bool true, .bool true, .int .u64 vt55, .bool false, .bool false, undef, undef, undef, undef, .int .u64 vt55, .int .i64 (w64 (vt55))], []⟩) (by kernel_rfl) ?_
          refine wpList_nil ?_
          refine hK71 _ _ ?_
          refine wp_ret ?_
          refine hret _ _ ?_
          refine ends_still (v := Value.int .i64 (w64 (vt55))) (by kernel_rfl) (by kernel_rfl) ?_
          have HS77 := HS60.drop
          have HS78 := HS77.drop
          injection h with h
          subst h
          exact ⟨f57, rfl, (L40.trans L58), HS78⟩
      · have c65 : ¬ (vw1.Hi < 0) := c65
        refine seqRwI 32 (x := (decide (vw1.Hi < 0))) (v := false) (by kernel_rfl) (decide_eq_false c65) ?_
        refine seqRwI 33 (x := (decide (vw1.Hi < 0))) (v := false) (by kernel_rfl) (decide_eq_false c65) ?_
        refine seqS3 (a' := ⟨#[.agg #[.int .i64 vw1.Hi, .int .u64 vw1.Lo], .int .i64 d2, .pointer (some ⟨b5, 0, none⟩), undef, .int .i64 0, .pointer (some ⟨b19, 0, none⟩), .int .u64 vt54, .int .u64 vt55, .int .i64 d2, .bool false, .agg #[.int .i64 vw1.Hi, .int .u64 vw1.Lo], .pointer (some ⟨b5, 0, none⟩), .int .i64 vw1.Hi, (j43 0), (j43 1), (j43 2), .tuple #[.int .u64 vt54, .int .u64 vt55], .pointer (some ⟨b19, 0, none⟩), .int .i64 x44, .int .u64 (u64 (x44)), .int .i64 d2, .int .u64 (u64 (d2)), .int .u64 (Int.tmod (u64 (x44)) (u64 (d2))), .pointer (some ⟨b19, 1, none⟩), .int .u64 x45, .int .i64 d2, .int .u64 (u64 (d2)), .tuple #[.int .u64 vt54, .int .u64 vt55], .int .u64 vt54, .int .u64 vt55, .pointer (some ⟨b5, 0, none⟩), .int .i64 vw1.Hi, .bool false, .bool false, undef, undef, .bool false, undef, undef, undef, undef, undef, undef], []⟩) (by kernel_rfl) ?_
        refine wpList_nil ?_
        refine hK64 _ _ ?_
        refine condF (by kernel_rfl) ?_
        refine wp_skip ?_
        refine hK62 _ _ ?_
        refine wp_seq_k (fun K72 hK73 => ?_)
        refine wp_region_lit ?_
        refine seqS3 (a' := ⟨#[.agg #[.int .i64 vw1.Hi, .int .u64 vw1.Lo], .int .i64 d2, .pointer (some ⟨b5, 0, none⟩), undef, .int .i64 (w64 (vt55)), .pointer (some ⟨b19, 0, none⟩), .int .u64 vt54, .int .u64 vt55, .int .i64 d2, .bool false, .agg #[.int .i64 vw1.Hi, .int .u64 vw1.Lo], .pointer (some ⟨b5, 0, none⟩), .int .i64 vw1.Hi, (j43 0), (j43 1), (j43 2), .tuple #[.int .u64 vt54, .int .u64 vt55], .pointer (some ⟨b19, 0, none⟩), .int .i64 x44, .int .u64 (u64 (x44)), .int .i64 d2, .int .u64 (u64 (d2)), .int .u64 (Int.tmod (u64 (x44)) (u64 (d2))), .pointer (some ⟨b19, 1, none⟩), .int .u64 x45, .int .i64 d2, .int .u64 (u64 (d2)), .tuple #[.int .u64 vt54, .int .u64 vt55], .int .u64 vt54, .int .u64 vt55, .pointer (some ⟨b5, 0, none⟩), .int .i64 vw1.Hi, .bool false, .bool false, undef, undef, .bool false, undef, undef, undef, undef, .int .u64 vt55, .int .i64 (w64 (vt55))], []⟩) (by kernel_rfl) ?_
        refine wpList_nil ?_
        refine hK73 _ _ ?_
        refine wp_ret ?_
        refine hret _ _ ?_
        refine ends_still (v := Value.int .i64 (w64 (vt55))) (by kernel_rfl) (by kernel_rfl) ?_
        have HS79 := HS60.drop
        have HS80 := HS79.drop
        injection h with h
        subst h
        exact ⟨f57, rfl, (L40.trans L58), HS80⟩
    clear h; have h := hv46; clear hv46
    have hq_ := ite_some h; clear h; rcases hq_ with ⟨c30, h⟩ | ⟨c30, h⟩
    · have c30 : vw1.Hi < 0 := c30
      refine wpRwI 13 (x := (decide (vw1.Hi < 0))) (v := true) (by kernel_rfl) (decide_eq_true c30) ?_
      refine condT (by kernel_rfl) ?_
      refine wp_region_lit ?_
      refine seqK rfl (does_run (run_loadN (n := 2) rfl Try.underlying126 rfl (by kernel_rfl) (by kernel_rfl : _ = Value.pointer (some ⟨b5, 0, none⟩)) (cs := [.int .i64 vw1.Hi, .int .u64 vw1.Lo]) rfl (HS24.u1.cells 0 2 _ rfl)) ?_)
      have hq_ := bind_some h; clear h; obtain ⟨vt31, hc32, h⟩ := hq_
      refine seqK rfl (does_call (f := 113) (args := #[.agg #[.int .i64 vw1.Hi, .int .u64 vw1.Lo]]) (by kernel_rfl) (num_Wide_Neg.calls k vw1 HS24 vt31 hc32) ?_)
      rintro _ W35 ⟨f33, rfl, L34, HS36⟩
      refine ⟨_, rfl, ?_⟩
      refine seqK rfl (does_store (n := 2) (vs := [.int .i64 vt31.Hi, .int .u64 vt31.Lo]) (cs' := #[.int .i64 vt31.Hi, .int .u64 vt31.Lo]) rfl (by kernel_rfl) (by kernel_rfl : _ = Value.pointer (some ⟨b19, 0, none⟩)) (by kernel_rfl : _ = Value.agg #[.int .i64 vt31.Hi, .int .u64 vt31.Lo]) rfl rfl (by intro u_ hu_; simp only [List.mem_cons, List.not_mem_nil, or_false] at hu_; rcases hu_ with rfl | rfl <;> rfl) HS36 (Nat.le_of_ble_eq_true rfl) (by kernel_rfl) ?_)
      intro W37 HS38
      refine wpList_nil ?_
      exact J47 f33 vt31.Hi vt31.Lo (fun i_ => [Value.bool true, Value.agg #[.int .i64 vw1.Hi, .int .u64 vw1.Lo], Value.agg #[.int .i64 vt31.Hi, .int .u64 vt31.Lo]].getD i_ undef) W37 _ L34 h HS38 (by kernel_rfl)
    · have c30 : ¬ (vw1.Hi < 0) := c30
      refine wpRwI 13 (x := (decide (vw1.Hi < 0))) (v := false) (by kernel_rfl) (decide_eq_false c30) ?_
      refine condF (by kernel_rfl) ?_
      refine wp_skip ?_
      exact J47 f vw1.Hi vw1.Lo (fun i_ => [Value.bool false, undef, undef].getD i_ undef) W23 _ (FM.le.refl _) h HS24 (by kernel_rfl)

set_option maxRecDepth 100000 in
set_option maxHeartbeats 4000000 in
theorem num_MulDivUp.calls (k : Nat)  (a1 : Int) (b2 : Int) (c3 : Int) {t w : World} {f : FM} {H : List Seg} (HS : St t w f (H)) (r1 : Int) (r2 : Int) (h : num_MulDivUp k a1 b2 c3 = some (r1, r2)) :
    Calls Try.prog 53 #[.int .i64 a1, .int .i64 b2, .int .i64 c3] w (fun e w' => ∃ (g : FM), e = .returned (Value.tuple #[.int .i64 r1, .int .i64 r2]) ∧ FM.le f g ∧ St t w' g (H)) := by
  unfold num_MulDivUp at h
  refine enter Try.func53 rfl (tm := #[.int .i64 a1, .int .i64 b2, .int .i64 c3, undef, undef, undef, undef, undef, undef, undef, undef, undef, undef, undef, undef, undef, undef, undef, undef, undef, undef, undef, undef, undef, undef, undef, undef, undef, undef, undef, undef, undef, undef, undef]) (by kernel_rfl) ?_
  intro B hret hnor hnp
  refine wp_seq_k (fun K4 hK5 => ?_)
  refine wp_region_lit ?_
  refine seqS2 (a' := ⟨#[.int .i64 a1, .int .i64 b2, .int .i64 c3, undef, undef, undef, .int .i64 0, .int .i64 0, undef, undef, undef, undef, undef, undef, undef, undef, undef, undef, undef, undef, undef, undef, undef, undef, undef, undef, undef, undef, undef, undef, undef, undef, undef, undef], []⟩) (by kernel_rfl) ?_
  refine wpList_nil ?_
  refine hK5 _ _ ?_
  refine wp_seq_k (fun K6 hK7 => ?_)
  refine wp_region_lit ?_
  have hq_ := bind_some h; clear h; obtain ⟨vt8, hc9, h⟩ := hq_
  refine seqL2 (by kernel_rfl) ?_
  refine seqK rfl (does_call (f := 90) (args := #[.int .i64 a1, .int .i64 b2]) (by kernel_rfl) (num_Product.calls k a1 b2 HS vt8 hc9) ?_)
  rintro _ W12 ⟨f10, rfl, L11, HS13⟩
  refine ⟨_, rfl, ?_⟩
  refine seqK rfl (does_alloc (z := Value.agg #[.int .i64 0, .int .u64 0]) (cs := #[.int .i64 0, .int .u64 0]) rfl (by kernel_rfl) rfl HS13 ?_)
  intro b14 W15 HS16
  refine seqK rfl (does_store (n := 2) (vs := [.int .i64 vt8.Hi, .int .u64 vt8.Lo]) (cs' := #[.int .i64 vt8.Hi, .int .u64 vt8.Lo]) rfl (by kernel_rfl) (by kernel_rfl : _ = Value.pointer (some ⟨b14, 0, none⟩)) (by kernel_rfl : _ = Value.agg #[.int .i64 vt8.Hi, .int .u64 vt8.Lo]) rfl rfl (by intro u_ hu_; simp only [List.mem_cons, List.not_mem_nil, or_false] at hu_; rcases hu_ with rfl | rfl <;> rfl) HS16 (Nat.le_of_ble_eq_true rfl) (by kernel_rfl) ?_)
  intro W18 HS19
  refine wpList_nil ?_
  refine hK7 _ _ ?_
  refine wp_seq_k (fun K20 hK21 => ?_)
  refine wp_region_lit ?_
  refine seqK rfl (does_run (run_loadN (n := 2) rfl Try.underlying126 rfl (by kernel_rfl) (by kernel_rfl : _ = Value.pointer (some ⟨b14, 0, none⟩)) (cs := [.int .i64 vt8.Hi, .int .u64 vt8.Lo]) rfl (HS19.cells 0 2 _ rfl)) ?_)
  have hq_ := bind_some h; clear h; obtain ⟨⟨vt22, vt23⟩, hc24, h⟩ := hq_
  refine seqL1 (by kernel_rfl) ?_
  refine seqK rfl (does_call (f := 91) (args := #[.agg #[.int .i64 vt8.Hi, .int .u64 vt8.Lo], .int .i64 c3]) (by kernel_rfl) (num_Wide_Div.calls k vt8 c3 HS19 vt22 vt23 hc24) ?_)
  rintro _ W27 ⟨f25, rfl, L26, HS28⟩
  refine ⟨_, rfl, ?_⟩
  refine seqS5 (a' := ⟨#[.int .i64 a1, .int .i64 b2, .int .i64 c3, undef, undef, undef, .int .i64 0, .int .i64 0, .pointer (some ⟨b14, 0, none⟩), .int .i64 vt22, .int .i64 vt23, .int .i64 a1, .int .i64 b2, .agg #[.int .i64 vt8.Hi, .int .u64 vt8.Lo], .tuple #[.int .i64 vt22, .int .i64 vt23], .agg #[.int .i64 vt8.Hi, .int .u64 vt8.Lo], .int .i64 c3, .tuple #[.int .i64 vt22, .int .i64 vt23], .int .i64 vt22, .int .i64 vt23, undef, undef, undef, undef, undef, undef, undef, undef, undef, undef, undef, undef, undef, undef], []⟩) (by kernel_rfl) ?_
  refine wpList_nil ?_
  refine hK21 _ _ ?_
  refine wp_seq_k (fun K29 hK30 => ?_)
  refine wp_seq_k (fun K31 hK32 => ?_)
  refine wp_region_lit ?_
  refine seqS3 (a' := ⟨#[.int .i64 a1, .int .i64 b2, .int .i64 c3, undef, undef, undef, .int .i64 0, .int .i64 0, .pointer (some ⟨b14, 0, none⟩), .int .i64 vt22, .int .i64 vt23, .int .i64 a1, .int .i64 b2, .agg #[.int .i64 vt8.Hi, .int .u64 vt8.Lo], .tuple #[.int .i64 vt22, .int .i64 vt23], .agg #[.int .i64 vt8.Hi, .int .u64 vt8.Lo], .int .i64 c3, .tuple #[.int .i64 vt22, .int .i64 vt23], .int .i64 vt22, .int .i64 vt23, .int .i64 vt23, .bool (vt23 != 0), .bool (vt23 != 0), undef, undef, undef, undef, undef, undef, undef, undef, undef, undef, undef], []⟩) (by kernel_rfl) ?_
  have hq_ := ite_some h; clear h; rcases hq_ with ⟨c33, h⟩ | ⟨c33, h⟩
  · have c33 : vt23 ≠ 0 := c33
    refine seqRwI 21 (x := (vt23 != 0)) (v := true) (by kernel_rfl) (bne_iff_ne.mpr c33) ?_
    refine seqRwI 22 (x := (vt23 != 0)) (v := true) (by kernel_rfl) (bne_iff_ne.mpr c33) ?_
    refine seqS5 (a' := ⟨#[.int .i64 a1, .int .i64 b2, .int .i64 c3, undef, undef, undef, .int .i64 0, .int .i64 0, .pointer (some ⟨b14, 0, none⟩), .int .i64 vt22, .int .i64 vt23, .int .i64 a1, .int .i64 b2, .agg #[.int .i64 vt8.Hi, .int .u64 vt8.Lo], .tuple #[.int .i64 vt22, .int .i64 vt23], .agg #[.int .i64 vt8.Hi, .int .u64 vt8.Lo], .int .i64 c3, .tuple #[.int .i64 vt22, .int .i64 vt23], .int .i64 vt22, .int .i64 vt23, .int .i64 vt23, .bool true, .bool true, undef, undef, undef, undef, .bool true, undef, undef, undef, undef, undef, undef], []⟩) (by kernel_rfl) ?_
    refine wpList_nil ?_
    refine hK32 _ _ ?_
    refine condT (by kernel_rfl) ?_
    refine wp_seq_k (fun K34 hK35 => ?_)
    refine wp_region_lit ?_
    refine seqS4 (a' := ⟨#[.int .i64 a1, .int .i64 b2, .int .i64 c3, undef, undef, undef, .int .i64 vt22, .int .i64 vt23, .pointer (some ⟨b14, 0, none⟩), .int .i64 vt22, .int .i64 vt23, .int .i64 a1, .int .i64 b2, .agg #[.int .i64 vt8.Hi, .int .u64 vt8.Lo], .tuple #[.int .i64 vt22, .int .i64 vt23], .agg #[.int .i64 vt8.Hi, .int .u64 vt8.Lo], .int .i64 c3, .tuple #[.int .i64 vt22, .int .i64 vt23], .int .i64 vt22, .int .i64 vt23, .int .i64 vt23, .bool true, .bool true, undef, undef, undef, undef, .bool true, .int .i64 vt22, .int .i64 vt23, undef, undef, undef, undef], []⟩) (by kernel_rfl) ?_
    refine wpList_nil ?_
    refine hK35 _ _ ?_
    refine wp_ret ?_
    refine hret _ _ ?_
    refine ends_still (v := Value.tuple #[.int .i64 vt22, .int .i64 vt23]) (by kernel_rfl) (by kernel_rfl) ?_
    have HS56 := HS28.drop
    injection h with h
    injection h with h0_ h
    subst h0_ h
    exact ⟨f25, rfl, (L11.trans L26), HS56⟩
  · have c33 : ¬ (vt23 ≠ 0) := c33
    refine seqRwI 21 (x := (vt23 != 0)) (v := false) (by kernel_rfl) (bne_eq_false_iff_eq.mpr (Decidable.of_not_not c33)) ?_
    refine seqRwI 22 (x := (vt23 != 0)) (v := false) (by kernel_rfl) (bne_eq_false_iff_eq.mpr (Decidable.of_not_not c33)) ?_
    refine seqG (by kernel_rfl) (does_run (run_loadN (n := 2) rfl Try.underlying126 rfl (by kernel_rfl) (by kernel_rfl : _ = Value.pointer (some ⟨b14, 0, none⟩)) (cs := [.int .i64 vt8.Hi, .int .u64 vt8.Lo]) rfl (HS28.cells 0 2 _ rfl)) ?_)
    have hq_ := bind_some h; clear h; obtain ⟨vt36, hc37, h⟩ := hq_
    refine seqL1 (by kernel_rfl) ?_
    refine seqG (by kernel_rfl) (does_call (f := 92) (args := #[.agg #[.int .i64 vt8.Hi, .int .u64 vt8.Lo], .int .i64 c3]) (by kernel_rfl) (num_Wide_Mod.calls k vt8 c3 HS28 vt36 hc37) ?_)
    rintro _ W40 ⟨f38, rfl, L39, HS41⟩
    refine ⟨_, rfl, ?_⟩
    refine seqS2 (a' := ⟨#[.int .i64 a1, .int .i64 b2, .int .i64 c3, undef, undef, undef, .int .i64 0, .int .i64 0, .pointer (some ⟨b14, 0, none⟩), .int .i64 vt22, .int .i64 vt23, .int .i64 a1, .int .i64 b2, .agg #[.int .i64 vt8.Hi, .int .u64 vt8.Lo], .tuple #[.int .i64 vt22, .int .i64 vt23], .agg #[.int .i64 vt8.Hi, .int .u64 vt8.Lo], .int .i64 c3, .tuple #[.int .i64 vt22, .int .i64 vt23], .int .i64 vt22, .int .i64 vt23, .int .i64 vt23, .bool false, .bool false, .agg #[.int .i64 vt8.Hi, .int .u64 vt8.Lo], .int .i64 c3, .int .i64 vt36, .bool (vt36 == 0), .bool (vt36 == 0), undef, undef, undef, undef, undef, undef], []⟩) (by kernel_rfl) ?_
    refine wpList_nil ?_
    refine hK32 _ _ ?_
    have hq_ := ite_some h; clear h; rcases hq_ with ⟨c43, h⟩ | ⟨c43, h⟩
    · have c43 : vt36 = 0 := c43
      refine wpRwI 26 (x := (vt36 == 0)) (v := true) (by kernel_rfl) (beq_iff_eq.mpr c43) ?_
      refine wpRwI 27 (x := (vt36 == 0)) (v := true) (by kernel_rfl) (beq_iff_eq.mpr c43) ?_
      refine condT (by kernel_rfl) ?_
      refine wp_seq_k (fun K44 hK45 => ?_)
      refine wp_region_lit ?_
      refine seqS4 (a' := ⟨#[.int .i64 a1, .int .i64 b2, .int .i64 c3, undef, undef, undef, .int .i64 vt22, .int .i64 vt23, .pointer (some ⟨b14, 0, none⟩), .int .i64 vt22, .int .i64 vt23, .int .i64 a1, .int .i64 b2, .agg #[.int .i64 vt8.Hi, .int .u64 vt8.Lo], .tuple #[.int .i64 vt22, .int .i64 vt23], .agg #[.int .i64 vt8.Hi, .int .u64 vt8.Lo], .int .i64 c3, .tuple #[.int .i64 vt22, .int .i64 vt23], .int .i64 vt22, .int .i64 vt23, .int .i64 vt23, .bool false, .bool false, .agg #[.int .i64 vt8.Hi, .int .u64 vt8.Lo], .int .i64 c3, .int .i64 vt36, .bool true, .bool true, .int .i64 vt22, .int .i64 vt23, undef, undef, undef, undef], []⟩) (by kernel_rfl) ?_
      refine wpList_nil ?_
      refine hK45 _ _ ?_
      refine wp_ret ?_
      refine hret _ _ ?_
      refine ends_still (v := Value.tuple #[.int .i64 vt22, .int .i64 vt23]) (by kernel_rfl) (by kernel_rfl) ?_
      have HS57 := HS41.drop
      injection h with h
      injection h with h0_ h
      subst h0_ h
      exact ⟨f38, rfl, (L11.trans (L26.trans L39)), HS57⟩
    · have c43 : ¬ (vt36 = 0) := c43
      refine wpRwI 26 (x := (vt36 == 0)) (v := false) (by kernel_rfl) (beq_eq_false_iff_ne.mpr c43) ?_
      refine wpRwI 27 (x := (vt36 == 0)) (v := false) (by kernel_rfl) (beq_eq_false_iff_ne.mpr c43) ?_
      refine condF (by kernel_rfl) ?_
      refine wp_skip ?_
      refine hK30 _ _ ?_
      refine wp_seq_k (fun K46 hK47 => ?_)
      refine wp_seq_k (fun K48 hK49 => ?_)
      refine wp_region_lit ?_
      refine seqS2 (a' := ⟨#[.int .i64 a1, .int .i64 b2, .int .i64 c3, undef, undef, undef, .int .i64 0, .int .i64 0, .pointer (some ⟨b14, 0, none⟩), .int .i64 vt22, .int .i64 vt23, .int .i64 a1, .int .i64 b2, .agg #[.int .i64 vt8.Hi, .int .u64 vt8.Lo], .tuple #[.int .i64 vt22, .int .i64 vt23], .agg #[.int .i64 vt8.Hi, .int .u64 vt8.Lo], .int .i64 c3, .tuple #[.int .i64 vt22, .int .i64 vt23], .int .i64 vt22, .int .i64 vt23, .int .i64 vt23, .bool false, .bool false, .agg #[.int .i64 vt8.Hi, .int .u64 vt8.Lo], .int .i64 c3, .int .i64 vt36, .bool false, .bool false, undef, undef, .int .i64 vt22, .bool (vt22 == 9223372036854775807), undef, undef], []⟩) (by kernel_rfl) ?_
      refine wpList_nil ?_
      refine hK49 _ _ ?_
      have hq_ := ite_some h; clear h; rcases hq_ with ⟨c51, h⟩ | ⟨c51, h⟩
      · have c51 : vt22 = 9223372036854775807 := c51
        refine wpRwI 31 (x := (vt22 == 9223372036854775807)) (v := true) (by kernel_rfl) (beq_iff_eq.mpr c51) ?_
        refine condT (by kernel_rfl) ?_
        refine wp_seq_k (fun K52 hK53 => ?_)
        refine wp_region_lit ?_
        refine seqS2 (a' := ⟨#[.int .i64 a1, .int .i64 b2, .int .i64 c3, undef, undef, undef, .int .i64 0, .int .i64 2, .pointer (some ⟨b14, 0, none⟩), .int .i64 vt22, .int .i64 vt23, .int .i64 a1, .int .i64 b2, .agg #[.int .i64 vt8.Hi, .int .u64 vt8.Lo], .tuple #[.int .i64 vt22, .int .i64 vt23], .agg #[.int .i64 vt8.Hi, .int .u64 vt8.Lo], .int .i64 c3, .tuple #[.int .i64 vt22, .int .i64 vt23], .int .i64 vt22, .int .i64 vt23, .int .i64 vt23, .bool false, .bool false, .agg #[.int .i64 vt8.Hi, .int .u64 vt8.Lo], .int .i64 c3, .int .i64 vt36, .bool false, .bool false, undef, undef, .int .i64 vt22, .bool true, undef, undef], []⟩) (by kernel_rfl) ?_
        refine wpList_nil ?_
        refine hK53 _ _ ?_
        refine wp_ret ?_
        refine hret _ _ ?_
        refine ends_still (v := Value.tuple #[.int .i64 0, .int .i64 2]) (by kernel_rfl) (by kernel_rfl) ?_
        have HS58 := HS41.drop
        injection h with h
        injection h with h0_ h
        subst h0_ h
        exact ⟨f38, rfl, (L11.trans (L26.trans L39)), HS58⟩
      · have c51 : ¬ (vt22 = 9223372036854775807) := c51
        refine wpRwI 31 (x := (vt22 == 9223372036854775807)) (v := false) (by kernel_rfl) (beq_eq_false_iff_ne.mpr c51) ?_
        refine condF (by kernel_rfl) ?_
        refine wp_skip ?_
        refine hK47 _ _ ?_
        refine wp_seq_k (fun K54 hK55 => ?_)
        refine wp_region_lit ?_
        refine seqS4 (a' := ⟨#[.int .i64 a1, .int .i64 b2, .int .i64 c3, undef, undef, undef, .int .i64 (w64 (vt22 + 1)), .int .i64 0, .pointer (some ⟨b14, 0, none⟩), .int .i64 vt22, .int .i64 vt23, .int .i64 a1, .int .i64 b2, .agg #[.int .i64 vt8.Hi, .int .u64 vt8.Lo], .tuple #[.int .i64 vt22, .int .i64 vt23], .agg #[.int .i64 vt8.Hi, .int .u64 vt8.Lo], .int .i64 c3, .tuple #[.int .i64 vt22, .int .i64 vt23], .int .i64 vt22, .int .i64 vt23, .int .i64 vt23, .bool false, .bool false, .agg #[.int .i64 vt8.Hi, .int .u64 vt8.Lo], .int .i64 c3, .int .i64 vt36, .bool false, .bool false, undef, undef, .int .i64 vt22, .bool false, .int .i64 vt22, .int .i64 (w64 (vt22 + 1))], []⟩) (by kernel_rfl) ?_
        refine wpList_nil ?_
        refine hK55 _ _ ?_
        refine wp_ret ?_
        refine hret _ _ ?_
        refine ends_still (v := Value.tuple #[.int .i64 (w64 (vt22 + 1)), .int .i64 0]) (by kernel_rfl) (by kernel_rfl) ?_
        have HS59 := HS41.drop
        injection h with h
        injection h with h0_ h
        subst h0_ h
        exact ⟨f38, rfl, (L11.trans (L26.trans L39)), HS59⟩

set_option maxRecDepth 100000 in
set_option maxHeartbeats 4000000 in
theorem bound_Mul_Light_2.calls (k : Nat) (b1 : Nat) (v3 : Int) (x4 : Int) (y5 : Int) {t w : World} {f : FM} {H : List Seg} (HS : St t w f ([(b1, .cells #[.int .i64 v3] 2 (0, 0))] :: H)) (r1 : Int) (r2 : Int) (h : bound_Mul_Light_2 k v3 x4 y5 = some (r1, r2)) :
    Calls Try.prog 111 #[.int .i64 x4, .int .i64 y5, .pointer (some ⟨b1, 0, none⟩)] w (fun e w' => ∃ (g : FM), e = .returned (Value.tuple #[.int .i64 r1, .int .i64 r2]) ∧ FM.le f g ∧ St t w' g ([(b1, .cells #[.int .i64 v3] 2 (0, 0))] :: H)) := by
  unfold bound_Mul_Light_2 at h
  refine enter Try.func111 rfl (tm := #[.int .i64 x4, .int .i64 y5, .pointer (some ⟨b1, 0, none⟩), undef, undef, undef, undef, undef, undef, undef, undef, undef, undef]) (by kernel_rfl) ?_
  intro B hret hnor hnp
  refine wp_seq_k (fun K6 hK7 => ?_)
  refine wp_region_lit ?_
  refine seqS2 (a' := ⟨#[.int .i64 x4, .int .i64 y5, .pointer (some ⟨b1, 0, none⟩), undef, undef, .int .i64 0, .int .i64 0, undef, undef, undef, undef, undef, undef], []⟩) (by kernel_rfl) ?_
  refine wpList_nil ?_
  refine hK7 _ _ ?_
  refine wp_seq_k (fun K8 hK9 => ?_)
  refine wp_region_lit ?_
  refine seqL2 (by kernel_rfl) ?_
  refine seqK rfl (does_run (run_load rfl Try.underlying2 rfl (by kernel_rfl : _ = Value.pointer (some ⟨b1, 0, none⟩)) (HS.cell 0)) ?_)
  have hq_ := bind_some h; clear h; obtain ⟨⟨vt10, vt11⟩, hc12, h⟩ := hq_
  refine seqK rfl (does_call (f := 53) (args := #[.int .i64 x4, .int .i64 y5, .int .i64 v3]) (by kernel_rfl) (num_MulDivUp.calls k x4 y5 v3 HS vt10 vt11 hc12) ?_)
  rintro _ W15 ⟨f13, rfl, L14, HS16⟩
  refine ⟨_, rfl, ?_⟩
  refine seqS4 (a' := ⟨#[.int .i64 x4, .int .i64 y5, .pointer (some ⟨b1, 0, none⟩), undef, undef, .int .i64 vt10, .int .i64 vt11, .int .i64 x4, .int .i64 y5, .int .i64 v3, .tuple #[.int .i64 vt10, .int .i64 vt11], .int .i64 vt10, .int .i64 vt11], []⟩) (by kernel_rfl) ?_
  refine wpList_nil ?_
  refine hK9 _ _ ?_
  refine wp_ret ?_
  refine hret _ _ ?_
  refine ends_still (v := Value.tuple #[.int .i64 vt10, .int .i64 vt11]) (by kernel_rfl) (by kernel_rfl) ?_
  injection h with h
  injection h with h0_ h
  subst h0_ h
  exact ⟨f13, rfl, L14, HS16⟩

set_option maxRecDepth 100000 in
set_option maxHeartbeats 4000000 in
theorem slices_Min_Light.calls (k : Nat) (A2 : Option Addr) (c3 : Nat) (x1 : List Int) {t w : World} {f : FM} {H : List Seg} (HS : St t w f (H)) (HR4 : SlR (tInt .i64) f A2 c3 x1) (r1 : Int) (h : slices_Min_Light k x1 = some r1) :
    Calls Try.prog 130 #[.slice A2 x1.length c3] w (fun e w' => ∃ (g : FM), e = .returned (Value.int .i64 r1) ∧ FM.le f g ∧ St t w' g (H)) := by
  unfold slices_Min_Light at h
  refine enter Try.func130 rfl (tm := #[.slice A2 x1.length c3, undef, undef, undef, undef, undef, undef, undef, undef, undef, undef, undef, undef, undef, undef, undef, undef, undef, undef, undef, undef, undef, undef, undef, undef]) (by kernel_rfl) ?_
  intro B hret hnor hnp
  refine wp_seq_k (fun K5 hK6 => ?_)
  refine wp_region_lit ?_
  refine seqS1 (a' := ⟨#[.slice A2 x1.length c3, undef, .int .i64 0, undef, undef, undef, undef, undef, undef, undef, undef, undef, undef, undef, undef, undef, undef, undef, undef, undef, undef, undef, undef, undef, undef], []⟩) (by kernel_rfl) ?_
  refine wpList_nil ?_
  refine hK6 _ _ ?_
  refine wp_seq_k (fun K7 hK8 => ?_)
  refine wp_seq_k (fun K9 hK10 => ?_)
  refine wp_region_lit ?_
  refine seqS3 (a' := ⟨#[.slice A2 x1.length c3, undef, .int .i64 0, undef, undef, .slice A2 x1.length c3, .int .i64 (x1.length : Int), .bool (decide ((x1.length : Int) < 1)), undef, undef, undef, undef, undef, undef, undef, undef, undef, undef, undef, undef, undef, undef, undef, undef, undef], []⟩) (by kernel_rfl) ?_
  refine wpList_nil ?_
  refine hK10 _ _ ?_
  have hq_ := ite_some h; clear h; rcases hq_ with ⟨c12, h⟩ | ⟨c12, h⟩
  · have c12 : (x1.length : Int) < 1 := c12
    refine wpRwI 7 (x := (decide ((x1.length : Int) < 1))) (v := true) (by kernel_rfl) (decide_eq_true c12) ?_
    refine condT (by kernel_rfl) ?_
    exact nomatch h
  · have c12 : ¬ ((x1.length : Int) < 1) := c12
    refine wpRwI 7 (x := (decide ((x1.length : Int) < 1))) (v := false) (by kernel_rfl) (decide_eq_false c12) ?_
    refine condF (by kernel_rfl) ?_
    refine wp_skip ?_
    refine hK8 _ _ ?_
    refine wp_seq_k (fun K13 hK14 => ?_)
    refine wp_region_lit ?_
    have hq_ := guard_some h; clear h; obtain ⟨c15, h⟩ := hq_
    have c15 : 0 < (x1.length : Int) := c15
    obtain ⟨b19, of20, cs16, rfl, hr17, hc18⟩ := HR4.at (i := 0) (by decide) c15
    obtain rfl := hr17
    refine seqL1 (by kernel_rfl) ?_
    refine seqK rfl (does_run (run_index (sz := 1) rfl Try.underlying62 (by kernel_rfl) (by kernel_rfl : _ = Value.slice (some ⟨b19, of20, none⟩) x1.length c3) (by kernel_rfl : _ = Value.int .i64 0) (by decide) c15 w) ?_)
    refine seqK rfl (does_run (run_load rfl Try.underlying52 rfl (by kernel_rfl : _ = Value.pointer (some ⟨b19, of20 + (0 : Int).toNat * 1, none⟩)) ((hc18 (FM.le.refl _) HS) 0 (by decide))) ?_)
    refine seqS1 (a' := ⟨#[.slice (some ⟨b19, of20, none⟩) x1.length c3, undef, .int .i64 0, .int .i64 (rd x1 0), undef, .slice (some ⟨b19, of20, none⟩) x1.length c3, .int .i64 (x1.length : Int), .bool false, undef, .slice (some ⟨b19, of20, none⟩) x1.length c3, .pointer (some ⟨b19, of20 + (0 : Int).toNat * 1, none⟩), .int .i64 (rd x1 0), undef, undef, undef, undef, undef, undef, undef, undef, undef, undef, undef, undef, undef], []⟩) (by kernel_rfl) ?_
    refine wpList_nil ?_
    refine hK14 _ _ ?_
    refine wp_seq_k (fun K21 hK22 => ?_)
    refine wp_seq_k (fun K23 hK24 => ?_)
    refine wp_region_lit ?_
    refine seqS1 (a' := ⟨#[.slice (some ⟨b19, of20, none⟩) x1.length c3, undef, .int .i64 0, .int .i64 (rd x1 0), .int .i64 1, .slice (some ⟨b19, of20, none⟩) x1.length c3, .int .i64 (x1.length : Int), .bool false, undef, .slice (some ⟨b19, of20, none⟩) x1.length c3, .pointer (some ⟨b19, of20 + (0 : Int).toNat * 1, none⟩), .int .i64 (rd x1 0), undef, undef, undef, undef, undef, undef, undef, undef, undef, undef, undef, undef, undef], []⟩) (by kernel_rfl) ?_
    refine wpList_nil ?_
    refine hK24 _ _ ?_
    refine blockK (fun B25 hx26 hn27 hr28 ho29 hp30 => ?_)
    have hq_ := bind_some h; clear h; obtain ⟨o31, hv67, h⟩ := hq_
    have J68 : ∀ (f61 : FM) (m66 : Int) (j65 : Nat → Value) (W63 : World) (a_ : Act), FM.le f f61 → some (m66) = some o31 → St t W63 f61 (H) → a_ = ⟨#[.slice (some ⟨b19, of20, none⟩) x1.length c3, undef, .int .i64 0, .int .i64 m66, (j65 0), .slice (some ⟨b19, of20, none⟩) x1.length c3, .int .i64 (x1.length : Int), .bool false, undef, .slice (some ⟨b19, of20, none⟩) x1.length c3, .pointer (some ⟨b19, of20 + (0 : Int).toNat * 1, none⟩), .int .i64 (rd x1 0), (j65 1), (j65 2), (j65 3), (j65 4), (j65 5), (j65 6), (j65 7), (j65 8), (j65 9), (j65 10), (j65 11), (j65 12), undef], []⟩ → K21 a_ W63 := by
      intro f61 m66 j65 W63 a_ L62 hj69 HS64  hfr_; subst hfr_
      injection hj69 with hj69; subst hj69; try dsimp only at h
      refine hK22 _ _ ?_
      refine wp_seq_k (fun K70 hK71 => ?_)
      refine wp_region_lit ?_
      refine seqS2 (a' := ⟨#[.slice (some ⟨b19, of20, none⟩) x1.length c3, undef, .int .i64 m66, .int .i64 m66, (j65 0), .slice (some ⟨b19, of20, none⟩) x1.length c3, .int .i64 (x1.length : Int), .bool false, undef, .slice (some ⟨b19, of20, none⟩) x1.length c3, .pointer (some ⟨b19, of20 + (0 : Int).toNat * 1, none⟩), .int .i64 (rd x1 0), (j65 1), (j65 2), (j65 3), (j65 4), (j65 5), (j65 6), (j65 7), (j65 8), (j65 9), (j65 10), (j65 11), (j65 12), .int .i64 m66], []⟩) (by kernel_rfl) ?_
      refine wpList_nil ?_
      refine hK71 _ _ ?_
      refine wp_ret ?_
      refine hret _ _ ?_
      refine ends_still (v := Value.int .i64 m66) (by kernel_rfl) (by kernel_rfl) ?_
      injection h with h
      subst h
      exact ⟨f61, rfl, L62, HS64⟩
    clear h; have h := hv67; clear hv67
    refine loopK (fun n_ a_ w_ => ∃ (f35 : FM) (m40 : Int) (i41 : Int) (j39 : Nat → Value), FM.le f f35 ∧ St t w_ f35 (H) ∧ slices_Min_Light.l0 k x1 n_ m40 i41 = some o31 ∧ a_ = ⟨#[.slice (some ⟨b19, of20, none⟩) x1.length c3, undef, .int .i64 0, .int .i64 m40, .int .i64 i41, .slice (some ⟨b19, of20, none⟩) x1.length c3, .int .i64 (x1.length : Int), .bool false, undef, .slice (some ⟨b19, of20, none⟩) x1.length c3, .pointer (some ⟨b19, of20 + (0 : Int).toNat * 1, none⟩), .int .i64 (rd x1 0), (j39 0), (j39 1), (j39 2), (j39 3), (j39 4), (j39 5), (j39 6), (j39 7), (j39 8), (j39 9), (j39 10), (j39 11), undef], []⟩) k ⟨f, (rd x1 0), 1, (fun i_ => [undef, undef, undef, undef, undef, undef, undef, undef, undef, undef, undef, undef].getD i_ undef), (FM.le.refl _), HS, h, (by kernel_rfl)⟩ ?_
    clear h
    rintro n34 _ W37 ⟨f35, m40, i41, j39, L36, HS38, h, rfl⟩ K32 hK33
    obtain _ | n34 := n34
    · exact nomatch h
    simp only [slices_Min_Light.l0] at h
    refine wp_seq_k (fun K42 hK43 => ?_)
    refine wp_seq_k (fun K44 hK45 => ?_)
    refine wp_region_lit ?_
    refine seqS4 (a' := ⟨#[.slice (some ⟨b19, of20, none⟩) x1.length c3, undef, .int .i64 0, .int .i64 m40, .int .i64 i41, .slice (some ⟨b19, of20, none⟩) x1.length c3, .int .i64 (x1.length : Int), .bool false, undef, .slice (some ⟨b19, of20, none⟩) x1.length c3, .pointer (some ⟨b19, of20 + (0 : Int).toNat * 1, none⟩), .int .i64 (rd x1 0), .int .i64 i41, .slice (some ⟨b19, of20, none⟩) x1.length c3, .int .i64 (x1.length : Int), .bool (decide (i41 < (x1.length : Int))), (j39 4), (j39 5), (j39 6), (j39 7), (j39 8), (j39 9), (j39 10), (j39 11), undef], []⟩) (by kernel_rfl) ?_
    refine wpList_nil ?_
    refine hK45 _ _ ?_
    have hq_ := ite_some h; clear h; rcases hq_ with ⟨c47, h⟩ | ⟨c47, h⟩
    · have c47 : i41 < (x1.length : Int) := c47
      refine wpRwI 15 (x := (decide (i41 < (x1.length : Int)))) (v := true) (by kernel_rfl) (decide_eq_true c47) ?_
      refine condT (by kernel_rfl) ?_
      refine wp_skip ?_
      refine hK43 _ _ ?_
      refine wp_seq_k (fun K48 hK49 => ?_)
      refine blockK (fun B50 hx51 hn52 hr53 ho54 hp55 => ?_)
      refine wp_region_lit ?_
      have hq_ := guard_some h; clear h; obtain ⟨c57, h⟩ := hq_
      have c57 : 0 ≤ i41 := c57
      obtain ⟨cs58, hr59, hc60⟩ := (HR4.mono L36).at' (i := i41) c57 c47
      obtain rfl := hr59
      refine seqL3 (by kernel_rfl) ?_
      refine seqK rfl (does_run (run_index (sz := 1) rfl Try.underlying62 (by kernel_rfl) (by kernel_rfl : _ = Value.slice (some ⟨b19, of20, none⟩) x1.length c3) (by kernel_rfl : _ = Value.int .i64 i41) c57 c47 W37) ?_)
      refine seqK rfl (does_run (run_load rfl Try.underlying52 rfl (by kernel_rfl : _ = Value.pointer (some ⟨b19, of20 + (i41 : Int).toNat * 1, none⟩)) ((hc60 (FM.le.refl _) HS38) 0 (by decide))) ?_)
      refine seqS2 (a' := ⟨#[.slice (some ⟨b19, of20, none⟩) x1.length c3, undef, .int .i64 0, .int .i64 (mn m40 (rd x1 i41)), .int .i64 i41, .slice (some ⟨b19, of20, none⟩) x1.length c3, .int .i64 (x1.length : Int), .bool false, undef, .slice (some ⟨b19, of20, none⟩) x1.length c3, .pointer (some ⟨b19, of20 + (0 : Int).toNat * 1, none⟩), .int .i64 (rd x1 0), .int .i64 i41, .slice (some ⟨b19, of20, none⟩) x1.length c3, .int .i64 (x1.length : Int), .bool true, (j39 4), (j39 5), .int .i64 m40, .slice (some ⟨b19, of20, none⟩) x1.length c3, .int .i64 i41, .pointer (some ⟨b19, of20 + (i41 : Int).toNat * 1, none⟩), .int .i64 (rd x1 i41), .int .i64 (mn m40 (rd x1 i41)), undef], []⟩) (by kernel_rfl) ?_
      refine wpList_nil ?_
      refine hn52 _ _ ?_
      refine hK49 _ _ ?_
      refine wp_region_lit ?_
      refine seqS3 (a' := ⟨#[.slice (some ⟨b19, of20, none⟩) x1.length c3, undef, .int .i64 0, .int .i64 (mn m40 (rd x1 i41)), .int .i64 (w64 (i41 + 1)), .slice (some ⟨b19, of20, none⟩) x1.length c3, .int .i64 (x1.length : Int), .bool false, undef, .slice (some ⟨b19, of20, none⟩) x1.length c3, .pointer (some ⟨b19, of20 + (0 : Int).toNat * 1, none⟩), .int .i64 (rd x1 0), .int .i64 i41, .slice (some ⟨b19, of20, none⟩) x1.length c3, .int .i64 (x1.length : Int), .bool true, .int .i64 i41, .int .i64 (w64 (i41 + 1)), .int .i64 m40, .slice (some ⟨b19, of20, none⟩) x1.length c3, .int .i64 i41, .pointer (some ⟨b19, of20 + (i41 : Int).toNat * 1, none⟩), .int .i64 (rd x1 i41), .int .i64 (mn m40 (rd x1 i41)), undef], []⟩) (by kernel_rfl) ?_
      refine wpList_nil ?_
      refine hK33 n34 _ _ (Nat.lt_succ_self _) ?_
      exact ⟨f35, (mn m40 (rd x1 i41)), (w64 (i41 + 1)), (fun i_ => [Value.int .i64 i41, Value.slice (some ⟨b19, of20, none⟩) x1.length c3, Value.int .i64 (x1.length : Int), Value.bool true, Value.int .i64 i41, Value.int .i64 (w64 (i41 + 1)), Value.int .i64 m40, Value.slice (some ⟨b19, of20, none⟩) x1.length c3, Value.int .i64 i41, Value.pointer (some ⟨b19, of20 + (i41 : Int).toNat * 1, none⟩), Value.int .i64 (rd x1 i41), Value.int .i64 (mn m40 (rd x1 i41))].getD i_ undef), L36, HS38, h, (by kernel_rfl)⟩
    · have c47 : ¬ (i41 < (x1.length : Int)) := c47
      refine wpRwI 15 (x := (decide (i41 < (x1.length : Int)))) (v := false) (by kernel_rfl) (decide_eq_false c47) ?_
      refine condF (by kernel_rfl) ?_
      refine wp_exit ?_
      refine hx26 _ _ ?_
      exact J68 f35 m40 (fun i_ => [Value.int .i64 i41, Value.int .i64 i41, Value.slice (some ⟨b19, of20, none⟩) x1.length c3, Value.int .i64 (x1.length : Int), Value.bool false, (j39 4), (j39 5), (j39 6), (j39 7), (j39 8), (j39 9), (j39 10), (j39 11)].getD i_ undef) W37 _ L36 h HS38 (by kernel_rfl)

set_option maxRecDepth 100000 in
set_option maxHeartbeats 4000000 in
theorem slices_Max_Light.calls (k : Nat) (A2 : Option Addr) (c3 : Nat) (x1 : List Int) {t w : World} {f : FM} {H : List Seg} (HS : St t w f (H)) (HR4 : SlR (tInt .i64) f A2 c3 x1) (r1 : Int) (h : slices_Max_Light k x1 = some r1) :
    Calls Try.prog 131 #[.slice A2 x1.length c3] w (fun e w' => ∃ (g : FM), e = .returned (Value.int .i64 r1) ∧ FM.le f g ∧ St t w' g (H)) := by
  unfold slices_Max_Light at h
  refine enter Try.func131 rfl (tm := #[.slice A2 x1.length c3, undef, undef, undef, undef, undef, undef, undef, undef, undef, undef, undef, undef, undef, undef, undef, undef, undef, undef, undef, undef, undef, undef, undef, undef]) (by kernel_rfl) ?_
  intro B hret hnor hnp
  refine wp_seq_k (fun K5 hK6 => ?_)
  refine wp_region_lit ?_
  refine seqS1 (a' := ⟨#[.slice A2 x1.length c3, undef, .int .i64 0, undef, undef, undef, undef, undef, undef, undef, undef, undef, undef, undef, undef, undef, undef, undef, undef, undef, undef, undef, undef, undef, undef], []⟩) (by kernel_rfl) ?_
  refine wpList_nil ?_
  refine hK6 _ _ ?_
  refine wp_seq_k (fun K7 hK8 => ?_)
  refine wp_seq_k (fun K9 hK10 => ?_)
  refine wp_region_lit ?_
  refine seqS3 (a' := ⟨#[.slice A2 x1.length c3, undef, .int .i64 0, undef, undef, .slice A2 x1.length c3, .int .i64 (x1.length : Int), .bool (decide ((x1.length : Int) < 1)), undef, undef, undef, undef, undef, undef, undef, undef, undef, undef, undef, undef, undef, undef, undef, undef, undef], []⟩) (by kernel_rfl) ?_
  refine wpList_nil ?_
  refine hK10 _ _ ?_
  have hq_ := ite_some h; clear h; rcases hq_ with ⟨c12, h⟩ | ⟨c12, h⟩
  · have c12 : (x1.length : Int) < 1 := c12
    refine wpRwI 7 (x := (decide ((x1.length : Int) < 1))) (v := true) (by kernel_rfl) (decide_eq_true c12) ?_
    refine condT (by kernel_rfl) ?_
    exact nomatch h
  · have c12 : ¬ ((x1.length : Int) < 1) := c12
    refine wpRwI 7 (x := (decide ((x1.length : Int) < 1))) (v := false) (by kernel_rfl) (decide_eq_false c12) ?_
    refine condF (by kernel_rfl) ?_
    refine wp_skip ?_
    refine hK8 _ _ ?_
    refine wp_seq_k (fun K13 hK14 => ?_)
    refine wp_region_lit ?_
    have hq_ := guard_some h; clear h; obtain ⟨c15, h⟩ := hq_
    have c15 : 0 < (x1.length : Int) := c15
    obtain ⟨b19, of20, cs16, rfl, hr17, hc18⟩ := HR4.at (i := 0) (by decide) c15
    obtain rfl := hr17
    refine seqL1 (by kernel_rfl) ?_
    refine seqK rfl (does_run (run_index (sz := 1) rfl Try.underlying62 (by kernel_rfl) (by kernel_rfl : _ = Value.slice (some ⟨b19, of20, none⟩) x1.length c3) (by kernel_rfl : _ = Value.int .i64 0) (by decide) c15 w) ?_)
    refine seqK rfl (does_run (run_load rfl Try.underlying52 rfl (by kernel_rfl : _ = Value.pointer (some ⟨b19, of20 + (0 : Int).toNat * 1, none⟩)) ((hc18 (FM.le.refl _) HS) 0 (by decide))) ?_)
    refine seqS1 (a' := ⟨#[.slice (some ⟨b19, of20, none⟩) x1.length c3, undef, .int .i64 0, .int .i64 (rd x1 0), undef, .slice (some ⟨b19, of20, none⟩) x1.length c3, .int .i64 (x1.length : Int), .bool false, undef, .slice (some ⟨b19, of20, none⟩) x1.length c3, .pointer (some ⟨b19, of20 + (0 : Int).toNat * 1, none⟩), .int .i64 (rd x1 0), undef, undef, undef, undef, undef, undef, undef, undef, undef, undef, undef, undef, undef], []⟩) (by kernel_rfl) ?_
    refine wpList_nil ?_
    refine hK14 _ _ ?_
    refine wp_seq_k (fun K21 hK22 => ?_)
    refine wp_seq_k (fun K23 hK24 => ?_)
    refine wp_region_lit ?_
    refine seqS1 (a' := ⟨#[.slice (some ⟨b19, of20, none⟩) x1.length c3, undef, .int .i64 0, .int .i64 (rd x1 0), .int .i64 1, .slice (some ⟨b19, of20, none⟩) x1.length c3, .int .i64 (x1.length : Int), .bool false, undef, .slice (some ⟨b19, of20, none⟩) x1.length c3, .pointer (some ⟨b19, of20 + (0 : Int).toNat * 1, none⟩), .int .i64 (rd x1 0), undef, undef, undef, undef, undef, undef, undef, undef, undef, undef, undef, undef, undef], []⟩) (by kernel_rfl) ?_
    refine wpList_nil ?_
    refine hK24 _ _ ?_
    refine blockK (fun B25 hx26 hn27 hr28 ho29 hp30 => ?_)
    have hq_ := bind_some h; clear h; obtain ⟨o31, hv67, h⟩ := hq_
    have J68 : ∀ (f61 : FM) (m66 : Int) (j65 : Nat → Value) (W63 : World) (a_ : Act), FM.le f f61 → some (m66) = some o31 → St t W63 f61 (H) → a_ = ⟨#[.slice (some ⟨b19, of20, none⟩) x1.length c3, undef, .int .i64 0, .int .i64 m66, (j65 0), .slice (some ⟨b19, of20, none⟩) x1.length c3, .int .i64 (x1.length : Int), .bool false, undef, .slice (some ⟨b19, of20, none⟩) x1.length c3, .pointer (some ⟨b19, of20 + (0 : Int).toNat * 1, none⟩), .int .i64 (rd x1 0), (j65 1), (j65 2), (j65 3), (j65 4), (j65 5), (j65 6), (j65 7), (j65 8), (j65 9), (j65 10), (j65 11), (j65 12), undef], []⟩ → K21 a_ W63 := by
      intro f61 m66 j65 W63 a_ L62 hj69 HS64  hfr_; subst hfr_
      injection hj69 with hj69; subst hj69; try dsimp only at h
      refine hK22 _ _ ?_
      refine wp_seq_k (fun K70 hK71 => ?_)
      refine wp_region_lit ?_
      refine seqS2 (a' := ⟨#[.slice (some ⟨b19, of20, none⟩) x1.length c3, undef, .int .i64 m66, .int .i64 m66, (j65 0), .slice (some ⟨b19, of20, none⟩) x1.length c3, .int .i64 (x1.length : Int), .bool false, undef, .slice (some ⟨b19, of20, none⟩) x1.length c3, .pointer (some ⟨b19, of20 + (0 : Int).toNat * 1, none⟩), .int .i64 (rd x1 0), (j65 1), (j65 2), (j65 3), (j65 4), (j65 5), (j65 6), (j65 7), (j65 8), (j65 9), (j65 10), (j65 11), (j65 12), .int .i64 m66], []⟩) (by kernel_rfl) ?_
      refine wpList_nil ?_
      refine hK71 _ _ ?_
      refine wp_ret ?_
      refine hret _ _ ?_
      refine ends_still (v := Value.int .i64 m66) (by kernel_rfl) (by kernel_rfl) ?_
      injection h with h
      subst h
      exact ⟨f61, rfl, L62, HS64⟩
    clear h; have h := hv67; clear hv67
    refine loopK (fun n_ a_ w_ => ∃ (f35 : FM) (m40 : Int) (i41 : Int) (j39 : Nat → Value), FM.le f f35 ∧ St t w_ f35 (H) ∧ slices_Max_Light.l0 k x1 n_ m40 i41 = some o31 ∧ a_ = ⟨#[.slice (some ⟨b19, of20, none⟩) x1.length c3, undef, .int .i64 0, .int .i64 m40, .int .i64 i41, .slice (some ⟨b19, of20, none⟩) x1.length c3, .int .i64 (x1.length : Int), .bool false, undef, .slice (some ⟨b19, of20, none⟩) x1.length c3, .pointer (some ⟨b19, of20 + (0 : Int).toNat * 1, none⟩), .int .i64 (rd x1 0), (j39 0), (j39 1), (j39 2), (j39 3), (j39 4), (j39 5), (j39 6), (j39 7), (j39 8), (j39 9), (j39 10), (j39 11), undef], []⟩) k ⟨f, (rd x1 0), 1, (fun i_ => [undef, undef, undef, undef, undef, undef, undef, undef, undef, undef, undef, undef].getD i_ undef), (FM.le.refl _), HS, h, (by kernel_rfl)⟩ ?_
    clear h
    rintro n34 _ W37 ⟨f35, m40, i41, j39, L36, HS38, h, rfl⟩ K32 hK33
    obtain _ | n34 := n34
    · exact nomatch h
    simp only [slices_Max_Light.l0] at h
    refine wp_seq_k (fun K42 hK43 => ?_)
    refine wp_seq_k (fun K44 hK45 => ?_)
    refine wp_region_lit ?_
    refine seqS4 (a' := ⟨#[.slice (some ⟨b19, of20, none⟩) x1.length c3, undef, .int .i64 0, .int .i64 m40, .int .i64 i41, .slice (some ⟨b19, of20, none⟩) x1.length c3, .int .i64 (x1.length : Int), .bool false, undef, .slice (some ⟨b19, of20, none⟩) x1.length c3, .pointer (some ⟨b19, of20 + (0 : Int).toNat * 1, none⟩), .int .i64 (rd x1 0), .int .i64 i41, .slice (some ⟨b19, of20, none⟩) x1.length c3, .int .i64 (x1.length : Int), .bool (decide (i41 < (x1.length : Int))), (j39 4), (j39 5), (j39 6), (j39 7), (j39 8), (j39 9), (j39 10), (j39 11), undef], []⟩) (by kernel_rfl) ?_
    refine wpList_nil ?_
    refine hK45 _ _ ?_
    have hq_ := ite_some h; clear h; rcases hq_ with ⟨c47, h⟩ | ⟨c47, h⟩
    · have c47 : i41 < (x1.length : Int) := c47
      refine wpRwI 15 (x := (decide (i41 < (x1.length : Int)))) (v := true) (by kernel_rfl) (decide_eq_true c47) ?_
      refine condT (by kernel_rfl) ?_
      refine wp_skip ?_
      refine hK43 _ _ ?_
      refine wp_seq_k (fun K48 hK49 => ?_)
      refine blockK (fun B50 hx51 hn52 hr53 ho54 hp55 => ?_)
      refine wp_region_lit ?_
      have hq_ := guard_some h; clear h; obtain ⟨c57, h⟩ := hq_
      have c57 : 0 ≤ i41 := c57
      obtain ⟨cs58, hr59, hc60⟩ := (HR4.mono L36).at' (i := i41) c57 c47
      obtain rfl := hr59
      refine seqL3 (by kernel_rfl) ?_
      refine seqK rfl (does_run (run_index (sz := 1) rfl Try.underlying62 (by kernel_rfl) (by kernel_rfl : _ = Value.slice (some ⟨b19, of20, none⟩) x1.length c3) (by kernel_rfl : _ = Value.int .i64 i41) c57 c47 W37) ?_)
      refine seqK rfl (does_run (run_load rfl Try.underlying52 rfl (by kernel_rfl : _ = Value.pointer (some ⟨b19, of20 + (i41 : Int).toNat * 1, none⟩)) ((hc60 (FM.le.refl _) HS38) 0 (by decide))) ?_)
      refine seqS2 (a' := ⟨#[.slice (some ⟨b19, of20, none⟩) x1.length c3, undef, .int .i64 0, .int .i64 (mx m40 (rd x1 i41)), .int .i64 i41, .slice (some ⟨b19, of20, none⟩) x1.length c3, .int .i64 (x1.length : Int), .bool false, undef, .slice (some ⟨b19, of20, none⟩) x1.length c3, .pointer (some ⟨b19, of20 + (0 : Int).toNat * 1, none⟩), .int .i64 (rd x1 0), .int .i64 i41, .slice (some ⟨b19, of20, none⟩) x1.length c3, .int .i64 (x1.length : Int), .bool true, (j39 4), (j39 5), .int .i64 m40, .slice (some ⟨b19, of20, none⟩) x1.length c3, .int .i64 i41, .pointer (some ⟨b19, of20 + (i41 : Int).toNat * 1, none⟩), .int .i64 (rd x1 i41), .int .i64 (mx m40 (rd x1 i41)), undef], []⟩) (by kernel_rfl) ?_
      refine wpList_nil ?_
      refine hn52 _ _ ?_
      refine hK49 _ _ ?_
      refine wp_region_lit ?_
      refine seqS3 (a' := ⟨#[.slice (some ⟨b19, of20, none⟩) x1.length c3, undef, .int .i64 0, .int .i64 (mx m40 (rd x1 i41)), .int .i64 (w64 (i41 + 1)), .slice (some ⟨b19, of20, none⟩) x1.length c3, .int .i64 (x1.length : Int), .bool false, undef, .slice (some ⟨b19, of20, none⟩) x1.length c3, .pointer (some ⟨b19, of20 + (0 : Int).toNat * 1, none⟩), .int .i64 (rd x1 0), .int .i64 i41, .slice (some ⟨b19, of20, none⟩) x1.length c3, .int .i64 (x1.length : Int), .bool true, .int .i64 i41, .int .i64 (w64 (i41 + 1)), .int .i64 m40, .slice (some ⟨b19, of20, none⟩) x1.length c3, .int .i64 i41, .pointer (some ⟨b19, of20 + (i41 : Int).toNat * 1, none⟩), .int .i64 (rd x1 i41), .int .i64 (mx m40 (rd x1 i41)), undef], []⟩) (by kernel_rfl) ?_
      refine wpList_nil ?_
      refine hK33 n34 _ _ (Nat.lt_succ_self _) ?_
      exact ⟨f35, (mx m40 (rd x1 i41)), (w64 (i41 + 1)), (fun i_ => [Value.int .i64 i41, Value.slice (some ⟨b19, of20, none⟩) x1.length c3, Value.int .i64 (x1.length : Int), Value.bool true, Value.int .i64 i41, Value.int .i64 (w64 (i41 + 1)), Value.int .i64 m40, Value.slice (some ⟨b19, of20, none⟩) x1.length c3, Value.int .i64 i41, Value.pointer (some ⟨b19, of20 + (i41 : Int).toNat * 1, none⟩), Value.int .i64 (rd x1 i41), Value.int .i64 (mx m40 (rd x1 i41))].getD i_ undef), L36, HS38, h, (by kernel_rfl)⟩
    · have c47 : ¬ (i41 < (x1.length : Int)) := c47
      refine wpRwI 15 (x := (decide (i41 < (x1.length : Int)))) (v := false) (by kernel_rfl) (decide_eq_false c47) ?_
      refine condF (by kernel_rfl) ?_
      refine wp_exit ?_
      refine hx26 _ _ ?_
      exact J68 f35 m40 (fun i_ => [Value.int .i64 i41, Value.int .i64 i41, Value.slice (some ⟨b19, of20, none⟩) x1.length c3, Value.int .i64 (x1.length : Int), Value.bool false, (j39 4), (j39 5), (j39 6), (j39 7), (j39 8), (j39 9), (j39 10), (j39 11)].getD i_ undef) W37 _ L36 h HS38 (by kernel_rfl)

set_option maxRecDepth 100000 in
set_option maxHeartbeats 4000000 in
theorem bound_corners_Light__bound_Mul_Light_1__bound_Mul_Light_2.calls (k : Nat) (b1 : Nat) (v3 : Int) (a4 : S_Bound) (b5 : S_Bound) {t w : World} {f : FM} {H : List Seg} (HS : St t w f ([(b1, .cells #[.int .i64 v3] 2 (0, 0))] :: H)) (r1 : S_Bound) (h : bound_corners_Light__bound_Mul_Light_1__bound_Mul_Light_2 k v3 a4 b5 = some r1) :
    Calls Try.prog 109 #[.agg #[.int .i64 a4.Lo, .int .i64 a4.Hi, .bool a4.Unknown], .agg #[.int .i64 b5.Lo, .int .i64 b5.Hi, .bool b5.Unknown], .func (.func 110) #[] #[.pointer (some ⟨b1, 0, none⟩)], .func (.func 111) #[] #[.pointer (some ⟨b1, 0, none⟩)]] w (fun e w' => ∃ (g : FM), e = .returned (Value.agg #[.int .i64 r1.Lo, .int .i64 r1.Hi, .bool r1.Unknown]) ∧ FM.le f g ∧ St t w' g ([(b1, .cells #[.int .i64 v3] 2 (0, 0))] :: H)) := by
  unfold bound_corners_Light__bound_Mul_Light_1__bound_Mul_Light_2 at h
  refine enter Try.func109 rfl (tm := #[.agg #[.int .i64 a4.Lo, .int .i64 a4.Hi, .bool a4.Unknown], .agg #[.int .i64 b5.Lo, .int .i64 b5.Hi, .bool b5.Unknown], .func (.func 110) #[] #[.pointer (some ⟨b1, 0, none⟩)], .func (.func 111) #[] #[.pointer (some ⟨b1, 0, none⟩)], undef, undef, undef, undef, undef, undef, undef, undef, undef, undef, undef, undef, undef, undef, undef, undef, undef, undef, undef, undef, undef, undef, undef, undef, undef, undef, undef, undef, undef, undef, undef, undef, undef, undef, undef, undef, undef, undef, undef, undef, undef, undef, undef, undef, undef, undef, undef, undef, undef, undef, undef, undef, undef, undef, undef, undef, undef, undef, undef, undef, undef, undef, undef, undef, undef, undef, undef]) (by kernel_rfl) ?_
  intro B hret hnor hnp
  refine wp_seq_k (fun K6 hK7 => ?_)
  refine wp_region_lit ?_
  refine seqK rfl (does_box (cs := #[.int .i64 a4.Lo, .int .i64 a4.Hi, .bool a4.Unknown]) rfl (by kernel_rfl : _ = Value.agg #[.int .i64 a4.Lo, .int .i64 a4.Hi, .bool a4.Unknown]) rfl HS ?_)
  intro b8 W9 HS10
  refine seqK rfl (does_box (cs := #[.int .i64 b5.Lo, .int .i64 b5.Hi, .bool b5.Unknown]) rfl (by kernel_rfl : _ = Value.agg #[.int .i64 b5.Lo, .int .i64 b5.Hi, .bool b5.Unknown]) rfl HS10 ?_)
  intro b12 W13 HS14
  refine seqK rfl (does_alloc (z := Value.agg #[.int .i64 0, .int .i64 0, .bool false]) (cs := #[.int .i64 0, .int .i64 0, .bool false]) rfl (by kernel_rfl) rfl HS14 ?_)
  intro b16 W17 HS18
  refine wpList_nil ?_
  refine hK7 _ _ ?_
  refine wp_seq_k (fun K20 hK21 => ?_)
  refine wp_region_lit ?_
  refine seqS1 (a' := ⟨#[.agg #[.int .i64 a4.Lo, .int .i64 a4.Hi, .bool a4.Unknown], .agg #[.int .i64 b5.Lo, .int .i64 b5.Hi, .bool b5.Unknown], .func (.func 110) #[] #[.pointer (some ⟨b1, 0, none⟩)], .func (.func 111) #[] #[.pointer (some ⟨b1, 0, none⟩)], .pointer (some ⟨b8, 0, none⟩), .pointer (some ⟨b12, 0, none⟩), undef, undef, .pointer (some ⟨b16, 0, none⟩), .slice none 0 0, undef, undef, undef, undef, undef, undef, undef, undef, undef, undef, undef, undef, undef, undef, undef, undef, undef, undef, undef, undef, undef, undef, undef, undef, undef, undef, undef, undef, undef, undef, undef, undef, undef, undef, undef, undef, undef, undef, undef, undef, undef, undef, undef, undef, undef, undef, undef, undef, undef, undef, undef, undef, undef, undef, undef, undef, undef, undef, undef, undef, undef], []⟩) (by kernel_rfl) ?_
  refine wpList_nil ?_
  refine hK21 _ _ ?_
  refine wp_seq_k (fun K22 hK23 => ?_)
  refine wp_seq_k (fun K24 hK25 => ?_)
  refine wp_region_lit ?_
  refine seqL1 (by kernel_rfl) ?_
  refine seqK rfl (does_run (run_load rfl Try.underlying52 rfl (by kernel_rfl : _ = Value.pointer (some ⟨b8, 0, none⟩)) (HS18.u2.cell 0)) ?_)
  refine seqL1 (by kernel_rfl) ?_
  refine seqK rfl (does_run (run_load rfl Try.underlying52 rfl (by kernel_rfl : _ = Value.pointer (some ⟨b8, 1, none⟩)) (HS18.u2.cell 1)) ?_)
  refine seqK rfl (does_lit (e := (tInt .i64)) (E := 52) (vs := #[(0, Value.int .i64 a4.Lo), (1, Value.int .i64 a4.Hi)]) (cs := #[.int .i64 a4.Lo, .int .i64 a4.Hi]) (xs := ([a4.Lo, a4.Hi] : List Int)) rfl Try.underlying62 (by kernel_rfl) (by kernel_rfl) ⟨[.int .i64 a4.Lo], _, rfl, rfl, ⟨[.int .i64 a4.Hi], _, rfl, rfl, rfl⟩⟩ rfl HS18 ?_ (by decide))
  intro b26 W27 s28 HS29 _ HO30
  refine seqS2 (a' := ⟨#[.agg #[.int .i64 a4.Lo, .int .i64 a4.Hi, .bool a4.Unknown], .agg #[.int .i64 b5.Lo, .int .i64 b5.Hi, .bool b5.Unknown], .func (.func 110) #[] #[.pointer (some ⟨b1, 0, none⟩)], .func (.func 111) #[] #[.pointer (some ⟨b1, 0, none⟩)], .pointer (some ⟨b8, 0, none⟩), .pointer (some ⟨b12, 0, none⟩), undef, undef, .pointer (some ⟨b16, 0, none⟩), .slice none 0 0, undef, undef, undef, undef, undef, undef, undef, undef, .pointer (some ⟨b8, 0, none⟩), .int .i64 a4.Lo, .pointer (some ⟨b8, 1, none⟩), .int .i64 a4.Hi, .slice (some ⟨b26, 0, none⟩) ([a4.Lo, a4.Hi] : List Int).length 2, .int .i64 (([a4.Lo, a4.Hi] : List Int).length : Int), .int .i64 0, undef, undef, undef, undef, undef, undef, undef, undef, undef, undef, undef, undef, undef, undef, undef, undef, undef, undef, undef, undef, undef, undef, undef, undef, undef, undef, undef, undef, undef, undef, undef, undef, undef, undef, undef, undef, undef, undef, undef, undef, undef, undef, undef, undef, undef, undef], []⟩) (by kernel_rfl) ?_
  refine wpList_nil ?_
  refine hK25 _ _ ?_
  refine blockK (fun B32 hx33 hn34 hr35 ho36 hp37 => ?_)
  have hq_ := bind_some h; clear h; obtain ⟨o38, hv318, h⟩ := hq_
  have JR320 : ∀ z_, some (Sum.inl z_) = some o38 → some z_ = some r1 := by
    intro z_ e_; injection e_ with e_; subst e_; exact h
  have J319 : ∀ (f307 : FM) (A313 : Option Addr) (c314 : Nat) (s315 : Seg) (l312 : List Int) (j311 : Nat → Value) (W309 : World) (a_ : Act), FM.le f f307 → some (Sum.inr l312) = some o38 → St t W309 f307 (s315 :: s28 :: [(b16, .cells #[.int .i64 0, .int .i64 0, .bool false] 54 (0, 0))] :: [(b12, .cells #[.int .i64 b5.Lo, .int .i64 b5.Hi, .bool b5.Unknown] 54 (0, 0))] :: [(b8, .cells #[.int .i64 a4.Lo, .int .i64 a4.Hi, .bool a4.Unknown] 54 (0, 0))] :: [(b1, .cells #[.int .i64 v3] 2 (0, 0))] :: H) → Own (tInt .i64) 52 f307 A313 c314 s315 l312 → a_ = ⟨#[.agg #[.int .i64 a4.Lo, .int .i64 a4.Hi, .bool a4.Unknown], .agg #[.int .i64 b5.Lo, .int .i64 b5.Hi, .bool b5.Unknown], .func (.func 110) #[] #[.pointer (some ⟨b1, 0, none⟩)], .func (.func 111) #[] #[.pointer (some ⟨b1, 0, none⟩)], .pointer (some ⟨b8, 0, none⟩), .pointer (some ⟨b12, 0, none⟩), undef, undef, .pointer (some ⟨b16, 0, none⟩), .slice A313 l312.length c314, undef, (j311 0), undef, (j311 1), (j311 2), (j311 3), (j311 4), (j311 5), .pointer (some ⟨b8, 0, none⟩), .int .i64 a4.Lo, .pointer (some ⟨b8, 1, none⟩), .int .i64 a4.Hi, .slice (some ⟨b26, 0, none⟩) ([a4.Lo, a4.Hi] : List Int).length 2, .int .i64 (([a4.Lo, a4.Hi] : List Int).length : Int), (j311 6), (j311 7), (j311 8), (j311 9), (j311 10), (j311 11), (j311 12), (j311 13), (j311 14), (j311 15), (j311 16), (j311 17), (j311 18), (j311 19), (j311 20), (j311 21), (j311 22), (j311 23), (j311 24), (j311 25), (j311 26), (j311 27), (j311 28), (j311 29), (j311 30), (j311 31), (j311 32), (j311 33), (j311 34), (j311 35), (j311 36), (j311 37), (j311 38), (j311 39), (j311 40), (j311 41), (j311 42), (j311 43), (j311 44), (j311 45), (j311 46), (j311 47), undef, undef, undef, undef, undef], []⟩ → K22 a_ W309 := by
    intro f307 A313 c314 s315 l312 j311 W309 a_ L308 hj321 HS310 HO316 hfr_; subst hfr_
    injection hj321 with hj321; subst hj321; try dsimp only at h
    simp only [Sum.elim_inr] at h
    refine hK23 _ _ ?_
    refine wp_seq_k (fun K332 hK333 => ?_)
    refine wp_region_lit ?_
    obtain ⟨f334, L335, HS336, HR337, th338⟩ := HO316.lend HS310
    have hq_ := bind_some h; clear h; obtain ⟨vt339, hc340, h⟩ := hq_
    refine seqL1 (by kernel_rfl) ?_
    refine seqK rfl (does_call (f := 130) (args := #[.slice A313 l312.length c314]) (by kernel_rfl) (slices_Min_Light.calls k A313 c314 l312 HS336 HR337 vt339 hc340) ?_)
    rintro _ W343 ⟨f341, rfl, L342, HS344⟩
    refine ⟨_, rfl, ?_⟩
    obtain ⟨f345, L346, HS347⟩ := th338 L342 HS344
    obtain ⟨f348, L349, HS350, HR351, th352⟩ := (HO316.mono L346).lend HS347
    have hq_ := bind_some h; clear h; obtain ⟨vt353, hc354, h⟩ := hq_
    refine seqL1 (by kernel_rfl) ?_
    refine seqK rfl (does_call (f := 131) (args := #[.slice A313 l312.length c314]) (by kernel_rfl) (slices_Max_Light.calls k A313 c314 l312 HS350 HR351 vt353 hc354) ?_)
    rintro _ W357 ⟨f355, rfl, L356, HS358⟩
    refine ⟨_, rfl, ?_⟩
    obtain ⟨f359, L360, HS361⟩ := th352 L356 HS358
    have hq_ := bind_some h; clear h; obtain ⟨vt362, hc363, h⟩ := hq_
    refine seqK rfl (does_call (f := 23) (args := #[.int .i64 vt339, .int .i64 vt353]) (by kernel_rfl) (bound_Of_Light.calls k vt339 vt353 HS361 vt362 hc363) ?_)
    rintro _ W366 ⟨f364, rfl, L365, HS367⟩
    refine ⟨_, rfl, ?_⟩
    have HS368 := HS367.u2
    refine seqK rfl (does_store (n := 3) (vs := [.int .i64 vt362.Lo, .int .i64 vt362.Hi, .bool vt362.Unknown]) (cs' := #[.int .i64 vt362.Lo, .int .i64 vt362.Hi, .bool vt362.Unknown]) rfl (by kernel_rfl) (by kernel_rfl : _ = Value.pointer (some ⟨b16, 0, none⟩)) (by kernel_rfl : _ = Value.agg #[.int .i64 vt362.Lo, .int .i64 vt362.Hi, .bool vt362.Unknown]) rfl rfl (by intro u_ hu_; simp only [List.mem_cons, List.not_mem_nil, or_false] at hu_; rcases hu_ with rfl | rfl | rfl <;> rfl) HS368 (Nat.le_of_ble_eq_true rfl) (by kernel_rfl) ?_)
    intro W369 HS370
    refine wpList_nil ?_
    refine hK333 _ _ ?_
    refine wp_ret ?_
    refine hret _ _ ?_
    refine ends (v := Value.agg #[.int .i64 vt362.Lo, .int .i64 vt362.Hi, .bool vt362.Unknown]) (results1 (q1 := .cell 8 54) (by kernel_rfl) (resN (n := 3) (cs := [.int .i64 vt362.Lo, .int .i64 vt362.Hi, .bool vt362.Unknown]) (by kernel_rfl : _ = Value.pointer (some ⟨b16, 0, none⟩)) Try.underlying54 rfl (by kernel_rfl) rfl (HS370.cells 0 3 _ rfl))) (by kernel_rfl) ?_
    have HS397 := HS370.drop
    have HS398 := HS397.drop
    have HS399 := HS398.drop
    have HS400 := HS399.drop
    have HS401 := HS400.drop
    injection h with h
    subst h
    exact ⟨f364, rfl, (L308.trans (L346.trans (L360.trans L365))), HS401⟩
  clear h; have h := hv318; clear hv318
  have HS322 := HS29.cons_nil
  refine loopK (fun n_ a_ w_ => ∃ (f42 : FM) (A48 : Option Addr) (c49 : Nat) (s50 : Seg) (l47 : List Int) (x53 : Int) (j46 : Nat → Value), FM.le f f42 ∧ St t w_ f42 (s50 :: s28 :: [(b16, .cells #[.int .i64 0, .int .i64 0, .bool false] 54 (0, 0))] :: [(b12, .cells #[.int .i64 b5.Lo, .int .i64 b5.Hi, .bool b5.Unknown] 54 (0, 0))] :: [(b8, .cells #[.int .i64 a4.Lo, .int .i64 a4.Hi, .bool a4.Unknown] 54 (0, 0))] :: [(b1, .cells #[.int .i64 v3] 2 (0, 0))] :: H) ∧ Own (tInt .i64) 52 f42 A48 c49 s50 l47 ∧ bound_corners_Light__bound_Mul_Light_1__bound_Mul_Light_2.l0 k a4 b5 v3 n_ l47 x53 = some o38 ∧ a_ = ⟨#[.agg #[.int .i64 a4.Lo, .int .i64 a4.Hi, .bool a4.Unknown], .agg #[.int .i64 b5.Lo, .int .i64 b5.Hi, .bool b5.Unknown], .func (.func 110) #[] #[.pointer (some ⟨b1, 0, none⟩)], .func (.func 111) #[] #[.pointer (some ⟨b1, 0, none⟩)], .pointer (some ⟨b8, 0, none⟩), .pointer (some ⟨b12, 0, none⟩), undef, undef, .pointer (some ⟨b16, 0, none⟩), .slice A48 l47.length c49, undef, (j46 0), undef, (j46 1), (j46 2), (j46 3), (j46 4), (j46 5), .pointer (some ⟨b8, 0, none⟩), .int .i64 a4.Lo, .pointer (some ⟨b8, 1, none⟩), .int .i64 a4.Hi, .slice (some ⟨b26, 0, none⟩) ([a4.Lo, a4.Hi] : List Int).length 2, .int .i64 (([a4.Lo, a4.Hi] : List Int).length : Int), .int .i64 x53, (j46 6), (j46 7), (j46 8), (j46 9), (j46 10), (j46 11), (j46 12), (j46 13), (j46 14), (j46 15), (j46 16), (j46 17), (j46 18), (j46 19), (j46 20), (j46 21), (j46 22), (j46 23), (j46 24), (j46 25), (j46 26), (j46 27), (j46 28), (j46 29), (j46 30), (j46 31), (j46 32), (j46 33), (j46 34), (j46 35), (j46 36), (j46 37), (j46 38), (j46 39), (j46 40), (j46 41), (j46 42), (j46 43), (j46 44), (j46 45), (j46 46), undef, undef, undef, undef, undef], []⟩) k ⟨f, none, 0, [], ([] : List Int), 0, (fun i_ => [undef, undef, undef, undef, undef, undef, undef, undef, undef, undef, undef, undef, undef, undef, undef, undef, undef, undef, undef, undef, undef, undef, undef, undef, undef, undef, undef, undef, undef, undef, undef, undef, undef, undef, undef, undef, undef, undef, undef, undef, undef, undef, undef, undef, undef, undef, undef].getD i_ undef), (FM.le.refl _), HS322, (Own.nil _), h, (by kernel_rfl)⟩ ?_
  clear h
  rintro n41 _ W44 ⟨f42, A48, c49, s50, l47, x53, j46, L43, HS45, HO51, h, rfl⟩ K39 hK40
  obtain _ | n41 := n41
  · exact nomatch h
  simp only [bound_corners_Light__bound_Mul_Light_1__bound_Mul_Light_2.l0] at h
  refine wp_seq_k (fun K54 hK55 => ?_)
  refine wp_region_lit ?_
  refine seqS1 (a' := ⟨#[.agg #[.int .i64 a4.Lo, .int .i64 a4.Hi, .bool a4.Unknown], .agg #[.int .i64 b5.Lo, .int .i64 b5.Hi, .bool b5.Unknown], .func (.func 110) #[] #[.pointer (some ⟨b1, 0, none⟩)], .func (.func 111) #[] #[.pointer (some ⟨b1, 0, none⟩)], .pointer (some ⟨b8, 0, none⟩), .pointer (some ⟨b12, 0, none⟩), undef, undef, .pointer (some ⟨b16, 0, none⟩), .slice A48 l47.length c49, undef, (j46 0), undef, (j46 1), (j46 2), (j46 3), (j46 4), (j46 5), .pointer (some ⟨b8, 0, none⟩), .int .i64 a4.Lo, .pointer (some ⟨b8, 1, none⟩), .int .i64 a4.Hi, .slice (some ⟨b26, 0, none⟩) ([a4.Lo, a4.Hi] : List Int).length 2, .int .i64 (([a4.Lo, a4.Hi] : List Int).length : Int), .int .i64 x53, .bool (decide (x53 < (([a4.Lo, a4.Hi] : List Int).length : Int))), (j46 7), (j46 8), (j46 9), (j46 10), (j46 11), (j46 12), (j46 13), (j46 14), (j46 15), (j46 16), (j46 17), (j46 18), (j46 19), (j46 20), (j46 21), (j46 22), (j46 23), (j46 24), (j46 25), (j46 26), (j46 27), (j46 28), (j46 29), (j46 30), (j46 31), (j46 32), (j46 33), (j46 34), (j46 35), (j46 36), (j46 37), (j46 38), (j46 39), (j46 40), (j46 41), (j46 42), (j46 43), (j46 44), (j46 45), (j46 46), undef, undef, undef, undef, undef], []⟩) (by kernel_rfl) ?_
  refine wpList_nil ?_
  refine hK55 _ _ ?_
  refine wp_seq_k (fun K56 hK57 => ?_)
  have hq_ := ite_some h; clear h; rcases hq_ with ⟨c59, h⟩ | ⟨c59, h⟩
  · have c59 : x53 < (([a4.Lo, a4.Hi] : List Int).length : Int) := c59
    refine wpRwI 25 (x := (decide (x53 < (([a4.Lo, a4.Hi] : List Int).length : Int)))) (v := true) (by kernel_rfl) (decide_eq_true c59) ?_
    refine condT (by kernel_rfl) ?_
    refine wp_skip ?_
    refine hK57 _ _ ?_
    refine wp_seq_k (fun K60 hK61 => ?_)
    refine blockK (fun B62 hx63 hn64 hr65 ho66 hp67 => ?_)
    refine wp_seq_k (fun K69 hK70 => ?_)
    refine wp_region_lit ?_
    have hq_ := guard_some h; clear h; obtain ⟨c71, h⟩ := hq_
    have c71 : 0 ≤ x53 := c71
    obtain ⟨cs72, hr73, hc74⟩ := (HO30.mono L43).at' (i := x53) c71 c59
    obtain rfl := hr73
    refine seqK rfl (does_run (run_index (sz := 1) rfl Try.underlying62 (by kernel_rfl) (by kernel_rfl : _ = Value.slice (some ⟨b26, 0, none⟩) ([a4.Lo, a4.Hi] : List Int).length 2) (by kernel_rfl : _ = Value.int .i64 x53) c71 c59 W44) ?_)
    refine seqK rfl (does_run (run_load rfl Try.underlying52 rfl (by kernel_rfl : _ = Value.pointer (some ⟨b26, 0 + (x53 : Int).toNat * 1, none⟩)) ((hc74 HS45.u1) 0 (by decide))) ?_)
    refine seqS1 (a' := ⟨#[.agg #[.int .i64 a4.Lo, .int .i64 a4.Hi, .bool a4.Unknown], .agg #[.int .i64 b5.Lo, .int .i64 b5.Hi, .bool b5.Unknown], .func (.func 110) #[] #[.pointer (some ⟨b1, 0, none⟩)], .func (.func 111) #[] #[.pointer (some ⟨b1, 0, none⟩)], .pointer (some ⟨b8, 0, none⟩), .pointer (some ⟨b12, 0, none⟩), undef, undef, .pointer (some ⟨b16, 0, none⟩), .slice A48 l47.length c49, undef, .int .i64 (rd ([a4.Lo, a4.Hi] : List Int) x53), undef, (j46 1), (j46 2), (j46 3), (j46 4), (j46 5), .pointer (some ⟨b8, 0, none⟩), .int .i64 a4.Lo, .pointer (some ⟨b8, 1, none⟩), .int .i64 a4.Hi, .slice (some ⟨b26, 0, none⟩) ([a4.Lo, a4.Hi] : List Int).length 2, .int .i64 (([a4.Lo, a4.Hi] : List Int).length : Int), .int .i64 x53, .bool true, .pointer (some ⟨b26, 0 + (x53 : Int).toNat * 1, none⟩), .int .i64 (rd ([a4.Lo, a4.Hi] : List Int) x53), (j46 9), (j46 10), (j46 11), (j46 12), (j46 13), (j46 14), (j46 15), (j46 16), (j46 17), (j46 18), (j46 19), (j46 20), (j46 21), (j46 22), (j46 23), (j46 24), (j46 25), (j46 26), (j46 27), (j46 28), (j46 29), (j46 30), (j46 31), (j46 32), (j46 33), (j46 34), (j46 35), (j46 36), (j46 37), (j46 38), (j46 39), (j46 40), (j46 41), (j46 42), (j46 43), (j46 44), (j46 45), (j46 46), undef, undef, undef, undef, undef], []⟩) (by kernel_rfl) ?_
    refine wpList_nil ?_
    refine hK70 _ _ ?_
    refine wp_seq_k (fun K75 hK76 => ?_)
    refine wp_region_lit ?_
    refine seqL1 (by kernel_rfl) ?_
    refine seqK rfl (does_run (run_load rfl Try.underlying52 rfl (by kernel_rfl : _ = Value.pointer (some ⟨b12, 0, none⟩)) (HS45.u3.cell 0)) ?_)
    refine seqL1 (by kernel_rfl) ?_
    refine seqK rfl (does_run (run_load rfl Try.underlying52 rfl (by kernel_rfl : _ = Value.pointer (some ⟨b12, 1, none⟩)) (HS45.u3.cell 1)) ?_)
    refine seqK rfl (does_lit (e := (tInt .i64)) (E := 52) (vs := #[(0, Value.int .i64 b5.Lo), (1, Value.int .i64 b5.Hi)]) (cs := #[.int .i64 b5.Lo, .int .i64 b5.Hi]) (xs := ([b5.Lo, b5.Hi] : List Int)) rfl Try.underlying62 (by kernel_rfl) (by kernel_rfl) ⟨[.int .i64 b5.Lo], _, rfl, rfl, ⟨[.int .i64 b5.Hi], _, rfl, rfl, rfl⟩⟩ rfl HS45 ?_ (by decide))
    intro b77 W78 s79 HS80 _ HO81
    refine seqS2 (a' := ⟨#[.agg #[.int .i64 a4.Lo, .int .i64 a4.Hi, .bool a4.Unknown], .agg #[.int .i64 b5.Lo, .int .i64 b5.Hi, .bool b5.Unknown], .func (.func 110) #[] #[.pointer (some ⟨b1, 0, none⟩)], .func (.func 111) #[] #[.pointer (some ⟨b1, 0, none⟩)], .pointer (some ⟨b8, 0, none⟩), .pointer (some ⟨b12, 0, none⟩), undef, undef, .pointer (some ⟨b16, 0, none⟩), .slice A48 l47.length c49, undef, .int .i64 (rd ([a4.Lo, a4.Hi] : List Int) x53), undef, (j46 1), (j46 2), (j46 3), (j46 4), (j46 5), .pointer (some ⟨b8, 0, none⟩), .int .i64 a4.Lo, .pointer (some ⟨b8, 1, none⟩), .int .i64 a4.Hi, .slice (some ⟨b26, 0, none⟩) ([a4.Lo, a4.Hi] : List Int).length 2, .int .i64 (([a4.Lo, a4.Hi] : List Int).length : Int), .int .i64 x53, .bool true, .pointer (some ⟨b26, 0 + (x53 : Int).toNat * 1, none⟩), .int .i64 (rd ([a4.Lo, a4.Hi] : List Int) x53), .pointer (some ⟨b12, 0, none⟩), .int .i64 b5.Lo, .pointer (some ⟨b12, 1, none⟩), .int .i64 b5.Hi, .slice (some ⟨b77, 0, none⟩) ([b5.Lo, b5.Hi] : List Int).length 2, .int .i64 (([b5.Lo, b5.Hi] : List Int).length : Int), .int .i64 0, (j46 16), (j46 17), (j46 18), (j46 19), (j46 20), (j46 21), (j46 22), (j46 23), (j46 24), (j46 25), (j46 26), (j46 27), (j46 28), (j46 29), (j46 30), (j46 31), (j46 32), (j46 33), (j46 34), (j46 35), (j46 36), (j46 37), (j46 38), (j46 39), (j46 40), (j46 41), (j46 42), (j46 43), (j46 44), (j46 45), (j46 46), undef, undef, undef, undef, undef], []⟩) (by kernel_rfl) ?_
    refine wpList_nil ?_
    refine hK76 _ _ ?_
    refine blockK (fun B83 hx84 hn85 hr86 ho87 hp88 => ?_)
    have hq_ := bind_some h; clear h; obtain ⟨o187, hv296, h⟩ := hq_
    have JR298 : ∀ z_, some (Sum.inl z_) = some o187 → some z_ = some o38 := by
      intro z_ e_; injection e_ with e_; subst e_; exact h
    have J297 : ∀ (f286 : FM) (A292 : Option Addr) (c293 : Nat) (s294 : Seg) (l291 : List Int) (j290 : Nat → Value) (W288 : World) (a_ : Act), FM.le f42 f286 → some (Sum.inr l291) = some o187 → St t W288 f286 (s79 :: s294 :: s28 :: [(b16, .cells #[.int .i64 0, .int .i64 0, .bool false] 54 (0, 0))] :: [(b12, .cells #[.int .i64 b5.Lo, .int .i64 b5.Hi, .bool b5.Unknown] 54 (0, 0))] :: [(b8, .cells #[.int .i64 a4.Lo, .int .i64 a4.Hi, .bool a4.Unknown] 54 (0, 0))] :: [(b1, .cells #[.int .i64 v3] 2 (0, 0))] :: H) → Own (tInt .i64) 52 f286 A292 c293 s294 l291 → a_ = ⟨#[.agg #[.int .i64 a4.Lo, .int .i64 a4.Hi, .bool a4.Unknown], .agg #[.int .i64 b5.Lo, .int .i64 b5.Hi, .bool b5.Unknown], .func (.func 110) #[] #[.pointer (some ⟨b1, 0, none⟩)], .func (.func 111) #[] #[.pointer (some ⟨b1, 0, none⟩)], .pointer (some ⟨b8, 0, none⟩), .pointer (some ⟨b12, 0, none⟩), undef, undef, .pointer (some ⟨b16, 0, none⟩), .slice A292 l291.length c293, undef, .int .i64 (rd ([a4.Lo, a4.Hi] : List Int) x53), undef, (j290 0), (j290 1), (j290 2), (j290 3), (j290 4), .pointer (some ⟨b8, 0, none⟩), .int .i64 a4.Lo, .pointer (some ⟨b8, 1, none⟩), .int .i64 a4.Hi, .slice (some ⟨b26, 0, none⟩) ([a4.Lo, a4.Hi] : List Int).length 2, .int .i64 (([a4.Lo, a4.Hi] : List Int).length : Int), .int .i64 x53, .bool true, .pointer (some ⟨b26, 0 + (x53 : Int).toNat * 1, none⟩), .int .i64 (rd ([a4.Lo, a4.Hi] : List Int) x53), .pointer (some ⟨b12, 0, none⟩), .int .i64 b5.Lo, .pointer (some ⟨b12, 1, none⟩), .int .i64 b5.Hi, .slice (some ⟨b77, 0, none⟩) ([b5.Lo, b5.Hi] : List Int).length 2, .int .i64 (([b5.Lo, b5.Hi] : List Int).length : Int), (j290 5), (j290 6), (j290 7), (j290 8), (j290 9), (j290 10), (j290 11), (j290 12), (j290 13), (j290 14), (j290 15), (j290 16), (j290 17), (j290 18), (j290 19), (j290 20), (j290 21), (j290 22), (j290 23), (j290 24), (j290 25), (j290 26), (j290 27), (j290 28), (j290 29), (j290 30), (j290 31), (j290 32), (j290 33), (j290 34), (j290 35), (j46 46), undef, undef, undef, undef, undef], []⟩ → B62 Exit.normal a_ W288 := by
      intro f286 A292 c293 s294 l291 j290 W288 a_ L287 hj299 HS289 HO295 hfr_; subst hfr_
      injection hj299 with hj299; subst hj299; try dsimp only at h
      simp only [Sum.elim_inr] at h
      refine hn64 _ _ ?_
      refine hK61 _ _ ?_
      refine wp_region_lit ?_
      refine seqS2 (a' := ⟨#[.agg #[.int .i64 a4.Lo, .int .i64 a4.Hi, .bool a4.Unknown], .agg #[.int .i64 b5.Lo, .int .i64 b5.Hi, .bool b5.Unknown], .func (.func 110) #[] #[.pointer (some ⟨b1, 0, none⟩)], .func (.func 111) #[] #[.pointer (some ⟨b1, 0, none⟩)], .pointer (some ⟨b8, 0, none⟩), .pointer (some ⟨b12, 0, none⟩), undef, undef, .pointer (some ⟨b16, 0, none⟩), .slice A292 l291.length c293, undef, .int .i64 (rd ([a4.Lo, a4.Hi] : List Int) x53), undef, (j290 0), (j290 1), (j290 2), (j290 3), (j290 4), .pointer (some ⟨b8, 0, none⟩), .int .i64 a4.Lo, .pointer (some ⟨b8, 1, none⟩), .int .i64 a4.Hi, .slice (some ⟨b26, 0, none⟩) ([a4.Lo, a4.Hi] : List Int).length 2, .int .i64 (([a4.Lo, a4.Hi] : List Int).length : Int), .int .i64 (w64 (x53 + 1)), .bool true, .pointer (some ⟨b26, 0 + (x53 : Int).toNat * 1, none⟩), .int .i64 (rd ([a4.Lo, a4.Hi] : List Int) x53), .pointer (some ⟨b12, 0, none⟩), .int .i64 b5.Lo, .pointer (some ⟨b12, 1, none⟩), .int .i64 b5.Hi, .slice (some ⟨b77, 0, none⟩) ([b5.Lo, b5.Hi] : List Int).length 2, .int .i64 (([b5.Lo, b5.Hi] : List Int).length : Int), (j290 5), (j290 6), (j290 7), (j290 8), (j290 9), (j290 10), (j290 11), (j290 12), (j290 13), (j290 14), (j290 15), (j290 16), (j290 17), (j290 18), (j290 19), (j290 20), (j290 21), (j290 22), (j290 23), (j290 24), (j290 25), (j290 26), (j290 27), (j290 28), (j290 29), (j290 30), (j290 31), (j290 32), (j290 33), (j290 34), (j290 35), .int .i64 (w64 (x53 + 1)), undef, undef, undef, undef, undef], []⟩) (by kernel_rfl) ?_
      refine wpList_nil ?_
      refine hK40 n41 _ _ (Nat.lt_succ_self _) ?_
      have HS324 := HS289.u6
      have HS325 := HS324.u6
      have HS326 := HS325.u6
      have HS327 := HS326.u6
      have HS328 := HS327.u6
      have HS329 := HS328.u6
      have HS330 := HS329.u6
      have HS331 := HS330.drop
      exact ⟨f286, A292, c293, s294, l291, (w64 (x53 + 1)), (fun i_ => [Value.int .i64 (rd ([a4.Lo, a4.Hi] : List Int) x53), (j290 0), (j290 1), (j290 2), (j290 3), (j290 4), Value.bool true, Value.pointer (some ⟨b26, 0 + (x53 : Int).toNat * 1, none⟩), Value.int .i64 (rd ([a4.Lo, a4.Hi] : List Int) x53), Value.pointer (some ⟨b12, 0, none⟩), Value.int .i64 b5.Lo, Value.pointer (some ⟨b12, 1, none⟩), Value.int .i64 b5.Hi, Value.slice (some ⟨b77, 0, none⟩) ([b5.Lo, b5.Hi] : List Int).length 2, Value.int .i64 (([b5.Lo, b5.Hi] : List Int).length : Int), (j290 5), (j290 6), (j290 7), (j290 8), (j290 9), (j290 10), (j290 11), (j290 12), (j290 13), (j290 14), (j290 15), (j290 16), (j290 17), (j290 18), (j290 19), (j290 20), (j290 21), (j290 22), (j290 23), (j290 24), (j290 25), (j290 26), (j290 27), (j290 28), (j290 29), (j290 30), (j290 31), (j290 32), (j290 33), (j290 34), (j290 35), Value.int .i64 (w64 (x53 + 1))].getD i_ undef), (L43.trans L287), HS331, HO295, h, (by kernel_rfl)⟩
    clear h; have h := hv296; clear hv296
    refine loopK (fun n_ a_ w_ => ∃ (f191 : FM) (A197 : Option Addr) (c198 : Nat) (s199 : Seg) (l196 : List Int) (x201 : Int) (j195 : Nat → Value), FM.le f42 f191 ∧ St t w_ f191 (s79 :: s199 :: s28 :: [(b16, .cells #[.int .i64 0, .int .i64 0, .bool false] 54 (0, 0))] :: [(b12, .cells #[.int .i64 b5.Lo, .int .i64 b5.Hi, .bool b5.Unknown] 54 (0, 0))] :: [(b8, .cells #[.int .i64 a4.Lo, .int .i64 a4.Hi, .bool a4.Unknown] 54 (0, 0))] :: [(b1, .cells #[.int .i64 v3] 2 (0, 0))] :: H) ∧ Own (tInt .i64) 52 f191 A197 c198 s199 l196 ∧ bound_corners_Light__bound_Mul_Light_1__bound_Mul_Light_2.l1 k b5 v3 a4 x53 n_ l196 x201 = some o187 ∧ a_ = ⟨#[.agg #[.int .i64 a4.Lo, .int .i64 a4.Hi, .bool a4.Unknown], .agg #[.int .i64 b5.Lo, .int .i64 b5.Hi, .bool b5.Unknown], .func (.func 110) #[] #[.pointer (some ⟨b1, 0, none⟩)], .func (.func 111) #[] #[.pointer (some ⟨b1, 0, none⟩)], .pointer (some ⟨b8, 0, none⟩), .pointer (some ⟨b12, 0, none⟩), undef, undef, .pointer (some ⟨b16, 0, none⟩), .slice A197 l196.length c198, undef, .int .i64 (rd ([a4.Lo, a4.Hi] : List Int) x53), undef, (j195 0), (j195 1), (j195 2), (j195 3), (j195 4), .pointer (some ⟨b8, 0, none⟩), .int .i64 a4.Lo, .pointer (some ⟨b8, 1, none⟩), .int .i64 a4.Hi, .slice (some ⟨b26, 0, none⟩) ([a4.Lo, a4.Hi] : List Int).length 2, .int .i64 (([a4.Lo, a4.Hi] : List Int).length : Int), .int .i64 x53, .bool true, .pointer (some ⟨b26, 0 + (x53 : Int).toNat * 1, none⟩), .int .i64 (rd ([a4.Lo, a4.Hi] : List Int) x53), .pointer (some ⟨b12, 0, none⟩), .int .i64 b5.Lo, .pointer (some ⟨b12, 1, none⟩), .int .i64 b5.Hi, .slice (some ⟨b77, 0, none⟩) ([b5.Lo, b5.Hi] : List Int).length 2, .int .i64 (([b5.Lo, b5.Hi] : List Int).length : Int), .int .i64 x201, (j195 5), (j195 6), (j195 7), (j195 8), (j195 9), (j195 10), (j195 11), (j195 12), (j195 13), (j195 14), (j195 15), (j195 16), (j195 17), (j195 18), (j195 19), (j195 20), (j195 21), (j195 22), (j195 23), (j195 24), (j195 25), (j195 26), (j195 27), (j195 28), (j195 29), (j195 30), (j195 31), (j195 32), (j195 33), (j195 34), (j46 46), undef, undef, undef, undef, undef], []⟩) k ⟨f42, A48, c49, s50, l47, 0, (fun i_ => [(j46 1), (j46 2), (j46 3), (j46 4), (j46 5), (j46 16), (j46 17), (j46 18), (j46 19), (j46 20), (j46 21), (j46 22), (j46 23), (j46 24), (j46 25), (j46 26), (j46 27), (j46 28), (j46 29), (j46 30), (j46 31), (j46 32), (j46 33), (j46 34), (j46 35), (j46 36), (j46 37), (j46 38), (j46 39), (j46 40), (j46 41), (j46 42), (j46 43), (j46 44), (j46 45)].getD i_ undef), (FM.le.refl _), HS80, HO51, h, (by kernel_rfl)⟩ ?_
    clear h
    rintro n190 _ W193 ⟨f191, A197, c198, s199, l196, x201, j195, L192, HS194, HO200, h, rfl⟩ K188 hK189
    obtain _ | n190 := n190
    · exact nomatch h
    simp only [bound_corners_Light__bound_Mul_Light_1__bound_Mul_Light_2.l1] at h
    refine wp_seq_k (fun K202 hK203 => ?_)
    refine wp_region_lit ?_
    refine seqS1 (a' := ⟨#[.agg #[.int .i64 a4.Lo, .int .i64 a4.Hi, .bool a4.Unknown], .agg #[.int .i64 b5.Lo, .int .i64 b5.Hi, .bool b5.Unknown], .func (.func 110) #[] #[.pointer (some ⟨b1, 0, none⟩)], .func (.func 111) #[] #[.pointer (some ⟨b1, 0, none⟩)], .pointer (some ⟨b8, 0, none⟩), .pointer (some ⟨b12, 0, none⟩), undef, undef, .pointer (some ⟨b16, 0, none⟩), .slice A197 l196.length c198, undef, .int .i64 (rd ([a4.Lo, a4.Hi] : List Int) x53), undef, (j195 0), (j195 1), (j195 2), (j195 3), (j195 4), .pointer (some ⟨b8, 0, none⟩), .int .i64 a4.Lo, .pointer (some ⟨b8, 1, none⟩), .int .i64 a4.Hi, .slice (some ⟨b26, 0, none⟩) ([a4.Lo, a4.Hi] : List Int).length 2, .int .i64 (([a4.Lo, a4.Hi] : List Int).length : Int), .int .i64 x53, .bool true, .pointer (some ⟨b26, 0 + (x53 : Int).toNat * 1, none⟩), .int .i64 (rd ([a4.Lo, a4.Hi] : List Int) x53), .pointer (some ⟨b12, 0, none⟩), .int .i64 b5.Lo, .pointer (some ⟨b12, 1, none⟩), .int .i64 b5.Hi, .slice (some ⟨b77, 0, none⟩) ([b5.Lo, b5.Hi] : List Int).length 2, .int .i64 (([b5.Lo, b5.Hi] : List Int).length : Int), .int .i64 x201, .bool (decide (x201 < (([b5.Lo, b5.Hi] : List Int).length : Int))), (j195 6), (j195 7), (j195 8), (j195 9), (j195 10), (j195 11), (j195 12), (j195 13), (j195 14), (j195 15), (j195 16), (j195 17), (j195 18), (j195 19), (j195 20), (j195 21), (j195 22), (j195 23), (j195 24), (j195 25), (j195 26), (j195 27), (j195 28), (j195 29), (j195 30), (j195 31), (j195 32), (j195 33), (j195 34), (j46 46), undef, undef, undef, undef, undef], []⟩) (by kernel_rfl) ?_
    refine wpList_nil ?_
    refine hK203 _ _ ?_
    refine wp_seq_k (fun K204 hK205 => ?_)
    have hq_ := ite_some h; clear h; rcases hq_ with ⟨c207, h⟩ | ⟨c207, h⟩
    · have c207 : x201 < (([b5.Lo, b5.Hi] : List Int).length : Int) := c207
      refine wpRwI 35 (x := (decide (x201 < (([b5.Lo, b5.Hi] : List Int).length : Int)))) (v := true) (by kernel_rfl) (decide_eq_true c207) ?_
      refine condT (by kernel_rfl) ?_
      refine wp_skip ?_
      refine hK205 _ _ ?_
      refine wp_seq_k (fun K208 hK209 => ?_)
      refine blockK (fun B210 hx211 hn212 hr213 ho214 hp215 => ?_)
      refine wp_seq_k (fun K217 hK218 => ?_)
      refine wp_region_lit ?_
      have hq_ := guard_some h; clear h; obtain ⟨c219, h⟩ := hq_
      have c219 : 0 ≤ x201 := c219
      obtain ⟨cs220, hr221, hc222⟩ := (HO81.mono L192).at' (i := x201) c219 c207
      obtain rfl := hr221
      refine seqK rfl (does_run (run_index (sz := 1) rfl Try.underlying62 (by kernel_rfl) (by kernel_rfl : _ = Value.slice (some ⟨b77, 0, none⟩) ([b5.Lo, b5.Hi] : List Int).length 2) (by kernel_rfl : _ = Value.int .i64 x201) c219 c207 W193) ?_)
      refine seqK rfl (does_run (run_load rfl Try.underlying52 rfl (by kernel_rfl : _ = Value.pointer (some ⟨b77, 0 + (x201 : Int).toNat * 1, none⟩)) ((hc222 HS194) 0 (by decide))) ?_)
      refine seqS1 (a' := ⟨#[.agg #[.int .i64 a4.Lo, .int .i64 a4.Hi, .bool a4.Unknown], .agg #[.int .i64 b5.Lo, .int .i64 b5.Hi, .bool b5.Unknown], .func (.func 110) #[] #[.pointer (some ⟨b1, 0, none⟩)], .func (.func 111) #[] #[.pointer (some ⟨b1, 0, none⟩)], .pointer (some ⟨b8, 0, none⟩), .pointer (some ⟨b12, 0, none⟩), undef, undef, .pointer (some ⟨b16, 0, none⟩), .slice A197 l196.length c198, undef, .int .i64 (rd ([a4.Lo, a4.Hi] : List Int) x53), undef, .int .i64 (rd ([b5.Lo, b5.Hi] : List Int) x201), (j195 1), (j195 2), (j195 3), (j195 4), .pointer (some ⟨b8, 0, none⟩), .int .i64 a4.Lo, .pointer (some ⟨b8, 1, none⟩), .int .i64 a4.Hi, .slice (some ⟨b26, 0, none⟩) ([a4.Lo, a4.Hi] : List Int).length 2, .int .i64 (([a4.Lo, a4.Hi] : List Int).length : Int), .int .i64 x53, .bool true, .pointer (some ⟨b26, 0 + (x53 : Int).toNat * 1, none⟩), .int .i64 (rd ([a4.Lo, a4.Hi] : List Int) x53), .pointer (some ⟨b12, 0, none⟩), .int .i64 b5.Lo, .pointer (some ⟨b12, 1, none⟩), .int .i64 b5.Hi, .slice (some ⟨b77, 0, none⟩) ([b5.Lo, b5.Hi] : List Int).length 2, .int .i64 (([b5.Lo, b5.Hi] : List Int).length : Int), .int .i64 x201, .bool true, .pointer (some ⟨b77, 0 + (x201 : Int).toNat * 1, none⟩), .int .i64 (rd ([b5.Lo, b5.Hi] : List Int) x201), (j195 8), (j195 9), (j195 10), (j195 11), (j195 12), (j195 13), (j195 14), (j195 15), (j195 16), (j195 17), (j195 18), (j195 19), (j195 20), (j195 21), (j195 22), (j195 23), (j195 24), (j195 25), (j195 26), (j195 27), (j195 28), (j195 29), (j195 30), (j195 31), (j195 32), (j195 33), (j195 34), (j46 46), undef, undef, undef, undef, undef], []⟩) (by kernel_rfl) ?_
      refine wpList_nil ?_
      refine hK218 _ _ ?_
      refine wp_seq_k (fun K223 hK224 => ?_)
      refine wp_region_lit ?_
      have HS225 := HS194.u6
      have hq_ := bind_some h; clear h; obtain ⟨⟨vt226, vt227⟩, hc228, h⟩ := hq_
      refine seqL3 (by kernel_rfl) ?_
      refine seqK rfl (does_call (f := 110) (args := #[.int .i64 (rd ([a4.Lo, a4.Hi] : List Int) x53), .int .i64 (rd ([b5.Lo, b5.Hi] : List Int) x201), .pointer (some ⟨b1, 0, none⟩)]) (by kernel_rfl) (bound_Mul_Light_1.calls k b1 v3 (rd ([a4.Lo, a4.Hi] : List Int) x53) (rd ([b5.Lo, b5.Hi] : List Int) x201) HS225 vt226 vt227 hc228) ?_)
      rintro _ W231 ⟨f229, rfl, L230, HS232⟩
      refine ⟨_, rfl, ?_⟩
      refine seqS5 (a' := ⟨#[.agg #[.int .i64 a4.Lo, .int .i64 a4.Hi, .bool a4.Unknown], .agg #[.int .i64 b5.Lo, .int .i64 b5.Hi, .bool b5.Unknown], .func (.func 110) #[] #[.pointer (some ⟨b1, 0, none⟩)], .func (.func 111) #[] #[.pointer (some ⟨b1, 0, none⟩)], .pointer (some ⟨b8, 0, none⟩), .pointer (some ⟨b12, 0, none⟩), undef, undef, .pointer (some ⟨b16, 0, none⟩), .slice A197 l196.length c198, undef, .int .i64 (rd ([a4.Lo, a4.Hi] : List Int) x53), undef, .int .i64 (rd ([b5.Lo, b5.Hi] : List Int) x201), .int .i64 vt226, .int .i64 vt227, (j195 3), (j195 4), .pointer (some ⟨b8, 0, none⟩), .int .i64 a4.Lo, .pointer (some ⟨b8, 1, none⟩), .int .i64 a4.Hi, .slice (some ⟨b26, 0, none⟩) ([a4.Lo, a4.Hi] : List Int).length 2, .int .i64 (([a4.Lo, a4.Hi] : List Int).length : Int), .int .i64 x53, .bool true, .pointer (some ⟨b26, 0 + (x53 : Int).toNat * 1, none⟩), .int .i64 (rd ([a4.Lo, a4.Hi] : List Int) x53), .pointer (some ⟨b12, 0, none⟩), .int .i64 b5.Lo, .pointer (some ⟨b12, 1, none⟩), .int .i64 b5.Hi, .slice (some ⟨b77, 0, none⟩) ([b5.Lo, b5.Hi] : List Int).length 2, .int .i64 (([b5.Lo, b5.Hi] : List Int).length : Int), .int .i64 x201, .bool true, .pointer (some ⟨b77, 0 + (x201 : Int).toNat * 1, none⟩), .int .i64 (rd ([b5.Lo, b5.Hi] : List Int) x201), .tuple #[.int .i64 vt226, .int .i64 vt227], .func (.func 110) #[] #[.pointer (some ⟨b1, 0, none⟩)], .int .i64 (rd ([a4.Lo, a4.Hi] : List Int) x53), .int .i64 (rd ([b5.Lo, b5.Hi] : List Int) x201), .tuple #[.int .i64 vt226, .int .i64 vt227], .int .i64 vt226, .int .i64 vt227, (j195 15), (j195 16), (j195 17), (j195 18), (j195 19), (j195 20), (j195 21), (j195 22), (j195 23), (j195 24), (j195 25), (j195 26), (j195 27), (j195 28), (j195 29), (j195 30), (j195 31), (j195 32), (j195 33), (j195 34), (j46 46), undef, undef, undef, undef, undef], []⟩) (by kernel_rfl) ?_
      refine wpList_nil ?_
      refine hK224 _ _ ?_
      refine wp_seq_k (fun K233 hK234 => ?_)
      refine wp_region_lit ?_
      have hq_ := bind_some h; clear h; obtain ⟨⟨vt235, vt236⟩, hc237, h⟩ := hq_
      refine seqL3 (by kernel_rfl) ?_
      refine seqK rfl (does_call (f := 111) (args := #[.int .i64 (rd ([a4.Lo, a4.Hi] : List Int) x53), .int .i64 (rd ([b5.Lo, b5.Hi] : List Int) x201), .pointer (some ⟨b1, 0, none⟩)]) (by kernel_rfl) (bound_Mul_Light_2.calls k b1 v3 (rd ([a4.Lo, a4.Hi] : List Int) x53) (rd ([b5.Lo, b5.Hi] : List Int) x201) HS232 vt235 vt236 hc237) ?_)
      rintro _ W240 ⟨f238, rfl, L239, HS241⟩
      refine ⟨_, rfl, ?_⟩
      refine seqS5 (a' := ⟨#[.agg #[.int .i64 a4.Lo, .int .i64 a4.Hi, .bool a4.Unknown], .agg #[.int .i64 b5.Lo, .int .i64 b5.Hi, .bool b5.Unknown], .func (.func 110) #[] #[.pointer (some ⟨b1, 0, none⟩)], .func (.func 111) #[] #[.pointer (some ⟨b1, 0, none⟩)], .pointer (some ⟨b8, 0, none⟩), .pointer (some ⟨b12, 0, none⟩), undef, undef, .pointer (some ⟨b16, 0, none⟩), .slice A197 l196.length c198, undef, .int .i64 (rd ([a4.Lo, a4.Hi] : List Int) x53), undef, .int .i64 (rd ([b5.Lo, b5.Hi] : List Int) x201), .int .i64 vt226, .int .i64 vt227, .int .i64 vt235, .int .i64 vt236, .pointer (some ⟨b8, 0, none⟩), .int .i64 a4.Lo, .pointer (some ⟨b8, 1, none⟩), .int .i64 a4.Hi, .slice (some ⟨b26, 0, none⟩) ([a4.Lo, a4.Hi] : List Int).length 2, .int .i64 (([a4.Lo, a4.Hi] : List Int).length : Int), .int .i64 x53, .bool true, .pointer (some ⟨b26, 0 + (x53 : Int).toNat * 1, none⟩), .int .i64 (rd ([a4.Lo, a4.Hi] : List Int) x53), .pointer (some ⟨b12, 0, none⟩), .int .i64 b5.Lo, .pointer (some ⟨b12, 1, none⟩), .int .i64 b5.Hi, .slice (some ⟨b77, 0, none⟩) ([b5.Lo, b5.Hi] : List Int).length 2, .int .i64 (([b5.Lo, b5.Hi] : List Int).length : Int), .int .i64 x201, .bool true, .pointer (some ⟨b77, 0 + (x201 : Int).toNat * 1, none⟩), .int .i64 (rd ([b5.Lo, b5.Hi] : List Int) x201), .tuple #[.int .i64 vt226, .int .i64 vt227], .func (.func 110) #[] #[.pointer (some ⟨b1, 0, none⟩)], .int .i64 (rd ([a4.Lo, a4.Hi] : List Int) x53), .int .i64 (rd ([b5.Lo, b5.Hi] : List Int) x201), .tuple #[.int .i64 vt226, .int .i64 vt227], .int .i64 vt226, .int .i64 vt227, .tuple #[.int .i64 vt235, .int .i64 vt236], .func (.func 111) #[] #[.pointer (some ⟨b1, 0, none⟩)], .int .i64 (rd ([a4.Lo, a4.Hi] : List Int) x53), .int .i64 (rd ([b5.Lo, b5.Hi] : List Int) x201), .tuple #[.int .i64 vt235, .int .i64 vt236], .int .i64 vt235, .int .i64 vt236, (j195 22), (j195 23), (j195 24), (j195 25), (j195 26), (j195 27), (j195 28), (j195 29), (j195 30), (j195 31), (j195 32), (j195 33), (j195 34), (j46 46), undef, undef, undef, undef, undef], []⟩) (by kernel_rfl) ?_
      refine wpList_nil ?_
      refine hK234 _ _ ?_
      refine wp_seq_k (fun K242 hK243 => ?_)
      refine wp_seq_k (fun K244 hK245 => ?_)
      refine wp_region_lit ?_
      refine seqS3 (a' := ⟨#[.agg #[.int .i64 a4.Lo, .int .i64 a4.Hi, .bool a4.Unknown], .agg #[.int .i64 b5.Lo, .int .i64 b5.Hi, .bool b5.Unknown], .func (.func 110) #[] #[.pointer (some ⟨b1, 0, none⟩)], .func (.func 111) #[] #[.pointer (some ⟨b1, 0, none⟩)], .pointer (some ⟨b8, 0, none⟩), .pointer (some ⟨b12, 0, none⟩), undef, undef, .pointer (some ⟨b16, 0, none⟩), .slice A197 l196.length c198, undef, .int .i64 (rd ([a4.Lo, a4.Hi] : List Int) x53), undef, .int .i64 (rd ([b5.Lo, b5.Hi] : List Int) x201), .int .i64 vt226, .int .i64 vt227, .int .i64 vt235, .int .i64 vt236, .pointer (some ⟨b8, 0, none⟩), .int .i64 a4.Lo, .pointer (some ⟨b8, 1, none⟩), .int .i64 a4.Hi, .slice (some ⟨b26, 0, none⟩) ([a4.Lo, a4.Hi] : List Int).length 2, .int .i64 (([a4.Lo, a4.Hi] : List Int).length : Int), .int .i64 x53, .bool true, .pointer (some ⟨b26, 0 + (x53 : Int).toNat * 1, none⟩), .int .i64 (rd ([a4.Lo, a4.Hi] : List Int) x53), .pointer (some ⟨b12, 0, none⟩), .int .i64 b5.Lo, .pointer (some ⟨b12, 1, none⟩), .int .i64 b5.Hi, .slice (some ⟨b77, 0, none⟩) ([b5.Lo, b5.Hi] : List Int).length 2, .int .i64 (([b5.Lo, b5.Hi] : List Int).length : Int), .int .i64 x201, .bool true, .pointer (some ⟨b77, 0 + (x201 : Int).toNat * 1, none⟩), .int .i64 (rd ([b5.Lo, b5.Hi] : List Int) x201), .tuple #[.int .i64 vt226, .int .i64 vt227], .func (.func 110) #[] #[.pointer (some ⟨b1, 0, none⟩)], .int .i64 (rd ([a4.Lo, a4.Hi] : List Int) x53), .int .i64 (rd ([b5.Lo, b5.Hi] : List Int) x201), .tuple #[.int .i64 vt226, .int .i64 vt227], .int .i64 vt226, .int .i64 vt227, .tuple #[.int .i64 vt235, .int .i64 vt236], .func (.func 111) #[] #[.pointer (some ⟨b1, 0, none⟩)], .int .i64 (rd ([a4.Lo, a4.Hi] : List Int) x53), .int .i64 (rd ([b5.Lo, b5.Hi] : List Int) x201), .tuple #[.int .i64 vt235, .int .i64 vt236], .int .i64 vt235, .int .i64 vt236, .int .i64 vt227, .bool (vt227 != 0), .bool (vt227 != 0), (j195 25), (j195 26), (j195 27), (j195 28), (j195 29), (j195 30), (j195 31), (j195 32), (j195 33), (j195 34), (j46 46), undef, undef, undef, undef, undef], []⟩) (by kernel_rfl) ?_
      have hq_ := ite_some h; clear h; rcases hq_ with ⟨c246, h⟩ | ⟨c246, h⟩
      · have c246 : vt227 ≠ 0 := c246
        refine seqRwI 53 (x := (vt227 != 0)) (v := true) (by kernel_rfl) (bne_iff_ne.mpr c246) ?_
        refine seqRwI 54 (x := (vt227 != 0)) (v := true) (by kernel_rfl) (bne_iff_ne.mpr c246) ?_
        refine seqS3 (a' := ⟨#[.agg #[.int .i64 a4.Lo, .int .i64 a4.Hi, .bool a4.Unknown], .agg #[.int .i64 b5.Lo, .int .i64 b5.Hi, .bool b5.Unknown], .func (.func 110) #[] #[.pointer (some ⟨b1, 0, none⟩)], .func (.func 111) #[] #[.pointer (some ⟨b1, 0, none⟩)], .pointer (some ⟨b8, 0, none⟩), .pointer (some ⟨b12, 0, none⟩), undef, undef, .pointer (some ⟨b16, 0, none⟩), .slice A197 l196.length c198, undef, .int .i64 (rd ([a4.Lo, a4.Hi] : List Int) x53), undef, .int .i64 (rd ([b5.Lo, b5.Hi] : List Int) x201), .int .i64 vt226, .int .i64 vt227, .int .i64 vt235, .int .i64 vt236, .pointer (some ⟨b8, 0, none⟩), .int .i64 a4.Lo, .pointer (some ⟨b8, 1, none⟩), .int .i64 a4.Hi, .slice (some ⟨b26, 0, none⟩) ([a4.Lo, a4.Hi] : List Int).length 2, .int .i64 (([a4.Lo, a4.Hi] : List Int).length : Int), .int .i64 x53, .bool true, .pointer (some ⟨b26, 0 + (x53 : Int).toNat * 1, none⟩), .int .i64 (rd ([a4.Lo, a4.Hi] : List Int) x53), .pointer (some ⟨b12, 0, none⟩), .int .i64 b5.Lo, .pointer (some ⟨b12, 1, none⟩), .int .i64 b5.Hi, .slice (some ⟨b77, 0, none⟩) ([b5.Lo, b5.Hi] : List Int).length 2, .int .i64 (([b5.Lo, b5.Hi] : List Int).length : Int), .int .i64 x201, .bool true, .pointer (some ⟨b77, 0 + (x201 : Int).toNat * 1, none⟩), .int .i64 (rd ([b5.Lo, b5.Hi] : List Int) x201), .tuple #[.int .i64 vt226, .int .i64 vt227], .func (.func 110) #[] #[.pointer (some ⟨b1, 0, none⟩)], .int .i64 (rd ([a4.Lo, a4.Hi] : List Int) x53), .int .i64 (rd ([b5.Lo, b5.Hi] : List Int) x201), .tuple #[.int .i64 vt226, .int .i64 vt227], .int .i64 vt226, .int .i64 vt227, .tuple #[.int .i64 vt235, .int .i64 vt236], .func (.func 111) #[] #[.pointer (some ⟨b1, 0, none⟩)], .int .i64 (rd ([a4.Lo, a4.Hi] : List Int) x53), .int .i64 (rd ([b5.Lo, b5.Hi] : List Int) x201), .tuple #[.int .i64 vt235, .int .i64 vt236], .int .i64 vt235, .int .i64 vt236, .int .i64 vt227, .bool true, .bool true, undef, undef, .bool true, (j195 28), (j195 29), (j195 30), (j195 31), (j195 32), (j195 33), (j195 34), (j46 46), undef, undef, undef, undef, undef], []⟩) (by kernel_rfl) ?_
        refine wpList_nil ?_
        refine hK245 _ _ ?_
        refine condT (by kernel_rfl) ?_
        refine wp_seq_k (fun K247 hK248 => ?_)
        refine wp_region_lit ?_
        have hq_ := bind_some h; clear h; obtain ⟨vt249, hc250, h⟩ := hq_
        refine seqK rfl (does_call (f := 82) (args := #[]) (by kernel_rfl) (bound_None_Light.calls k  HS241 vt249 hc250) ?_)
        rintro _ W253 ⟨f251, rfl, L252, HS254⟩
        refine ⟨_, rfl, ?_⟩
        have HS255 := HS254.u4
        refine seqK rfl (does_store (n := 3) (vs := [.int .i64 vt249.Lo, .int .i64 vt249.Hi, .bool vt249.Unknown]) (cs' := #[.int .i64 vt249.Lo, .int .i64 vt249.Hi, .bool vt249.Unknown]) rfl (by kernel_rfl) (by kernel_rfl : _ = Value.pointer (some ⟨b16, 0, none⟩)) (by kernel_rfl : _ = Value.agg #[.int .i64 vt249.Lo, .int .i64 vt249.Hi, .bool vt249.Unknown]) rfl rfl (by intro u_ hu_; simp only [List.mem_cons, List.not_mem_nil, or_false] at hu_; rcases hu_ with rfl | rfl | rfl <;> rfl) HS255 (Nat.le_of_ble_eq_true rfl) (by kernel_rfl) ?_)
        intro W256 HS257
        refine wpList_nil ?_
        refine hK248 _ _ ?_
        refine wp_ret ?_
        refine hr213 _ _ ?_
        refine hr86 _ _ ?_
        refine hr65 _ _ ?_
        refine hr35 _ _ ?_
        refine hret _ _ ?_
        refine ends (v := Value.agg #[.int .i64 vt249.Lo, .int .i64 vt249.Hi, .bool vt249.Unknown]) (results1 (q1 := .cell 8 54) (by kernel_rfl) (resN (n := 3) (cs := [.int .i64 vt249.Lo, .int .i64 vt249.Hi, .bool vt249.Unknown]) (by kernel_rfl : _ = Value.pointer (some ⟨b16, 0, none⟩)) Try.underlying54 rfl (by kernel_rfl) rfl (HS257.cells 0 3 _ rfl))) (by kernel_rfl) ?_
        have HS371 := HS257.u1
        have HS372 := HS371.u6
        have HS373 := HS372.u6
        have HS374 := HS373.u6
        have HS375 := HS374.u6
        have HS376 := HS375.u6
        have HS377 := HS376.u6
        have HS378 := HS377.drop
        have HS379 := HS378.drop
        have HS380 := HS379.drop
        have HS381 := HS380.drop
        have HS382 := HS381.drop
        have HS383 := HS382.drop
        replace h := JR298 _ h
        replace h := JR320 _ h
        injection h with h
        subst h
        exact ⟨f251, rfl, (L43.trans (L192.trans (L230.trans (L239.trans L252)))), HS383⟩
      · have c246 : ¬ (vt227 ≠ 0) := c246
        refine seqRwI 53 (x := (vt227 != 0)) (v := false) (by kernel_rfl) (bne_eq_false_iff_eq.mpr (Decidable.of_not_not c246)) ?_
        refine seqRwI 54 (x := (vt227 != 0)) (v := false) (by kernel_rfl) (bne_eq_false_iff_eq.mpr (Decidable.of_not_not c246)) ?_
        refine seqS3 (a' := ⟨#[.agg #[.int .i64 a4.Lo, .int .i64 a4.Hi, .bool a4.Unknown], .agg #[.int .i64 b5.Lo, .int .i64 b5.Hi, .bool b5.Unknown], .func (.func 110) #[] #[.pointer (some ⟨b1, 0, none⟩)], .func (.func 111) #[] #[.pointer (some ⟨b1, 0, none⟩)], .pointer (some ⟨b8, 0, none⟩), .pointer (some ⟨b12, 0, none⟩), undef, undef, .pointer (some ⟨b16, 0, none⟩), .slice A197 l196.length c198, undef, .int .i64 (rd ([a4.Lo, a4.Hi] : List Int) x53), undef, .int .i64 (rd ([b5.Lo, b5.Hi] : List Int) x201), .int .i64 vt226, .int .i64 vt227, .int .i64 vt235, .int .i64 vt236, .pointer (some ⟨b8, 0, none⟩), .int .i64 a4.Lo, .pointer (some ⟨b8, 1, none⟩), .int .i64 a4.Hi, .slice (some ⟨b26, 0, none⟩) ([a4.Lo, a4.Hi] : List Int).length 2, .int .i64 (([a4.Lo, a4.Hi] : List Int).length : Int), .int .i64 x53, .bool true, .pointer (some ⟨b26, 0 + (x53 : Int).toNat * 1, none⟩), .int .i64 (rd ([a4.Lo, a4.Hi] : List Int) x53), .pointer (some ⟨b12, 0, none⟩), .int .i64 b5.Lo, .pointer (some ⟨b12, 1, none⟩), .int .i64 b5.Hi, .slice (some ⟨b77, 0, none⟩) ([b5.Lo, b5.Hi] : List Int).length 2, .int .i64 (([b5.Lo, b5.Hi] : List Int).length : Int), .int .i64 x201, .bool true, .pointer (some ⟨b77, 0 + (x201 : Int).toNat * 1, none⟩), .int .i64 (rd ([b5.Lo, b5.Hi] : List Int) x201), .tuple #[.int .i64 vt226, .int .i64 vt227], .func (.func 110) #[] #[.pointer (some ⟨b1, 0, none⟩)], .int .i64 (rd ([a4.Lo, a4.Hi] : List Int) x53), .int .i64 (rd ([b5.Lo, b5.Hi] : List Int) x201), .tuple #[.int .i64 vt226, .int .i64 vt227], .int .i64 vt226, .int .i64 vt227, .tuple #[.int .i64 vt235, .int .i64 vt236], .func (.func 111) #[] #[.pointer (some ⟨b1, 0, none⟩)], .int .i64 (rd ([a4.Lo, a4.Hi] : List Int) x53), .int .i64 (rd ([b5.Lo, b5.Hi] : List Int) x201), .tuple #[.int .i64 vt235, .int .i64 vt236], .int .i64 vt235, .int .i64 vt236, .int .i64 vt227, .bool false, .bool false, .int .i64 vt236, .bool (vt236 != 0), .bool (vt236 != 0), (j195 28), (j195 29), (j195 30), (j195 31), (j195 32), (j195 33), (j195 34), (j46 46), undef, undef, undef, undef, undef], []⟩) (by kernel_rfl) ?_
        refine wpList_nil ?_
        refine hK245 _ _ ?_
        have hq_ := ite_some h; clear h; rcases hq_ with ⟨c259, h⟩ | ⟨c259, h⟩
        · have c259 : vt236 ≠ 0 := c259
          refine wpRwI 56 (x := (vt236 != 0)) (v := true) (by kernel_rfl) (bne_iff_ne.mpr c259) ?_
          refine wpRwI 57 (x := (vt236 != 0)) (v := true) (by kernel_rfl) (bne_iff_ne.mpr c259) ?_
          refine condT (by kernel_rfl) ?_
          refine wp_seq_k (fun K260 hK261 => ?_)
          refine wp_region_lit ?_
          have hq_ := bind_some h; clear h; obtain ⟨vt262, hc263, h⟩ := hq_
          refine seqK rfl (does_call (f := 82) (args := #[]) (by kernel_rfl) (bound_None_Light.calls k  HS241 vt262 hc263) ?_)
          rintro _ W266 ⟨f264, rfl, L265, HS267⟩
          refine ⟨_, rfl, ?_⟩
          have HS268 := HS267.u4
          refine seqK rfl (does_store (n := 3) (vs := [.int .i64 vt262.Lo, .int .i64 vt262.Hi, .bool vt262.Unknown]) (cs' := #[.int .i64 vt262.Lo, .int .i64 vt262.Hi, .bool vt262.Unknown]) rfl (by kernel_rfl) (by kernel_rfl : _ = Value.pointer (some ⟨b16, 0, none⟩)) (by kernel_rfl : _ = Value.agg #[.int .i64 vt262.Lo, .int .i64 vt262.Hi, .bool vt262.Unknown]) rfl rfl (by intro u_ hu_; simp only [List.mem_cons, List.not_mem_nil, or_false] at hu_; rcases hu_ with rfl | rfl | rfl <;> rfl) HS268 (Nat.le_of_ble_eq_true rfl) (by kernel_rfl) ?_)
          intro W269 HS270
          refine wpList_nil ?_
          refine hK261 _ _ ?_
          refine wp_ret ?_
          refine hr213 _ _ ?_
          refine hr86 _ _ ?_
          refine hr65 _ _ ?_
          refine hr35 _ _ ?_
          refine hret _ _ ?_
          refine ends (v := Value.agg #[.int .i64 vt262.Lo, .int .i64 vt262.Hi, .bool vt262.Unknown]) (results1 (q1 := .cell 8 54) (by kernel_rfl) (resN (n := 3) (cs := [.int .i64 vt262.Lo, .int .i64 vt262.Hi, .bool vt262.Unknown]) (by kernel_rfl : _ = Value.pointer (some ⟨b16, 0, none⟩)) Try.underlying54 rfl (by kernel_rfl) rfl (HS270.cells 0 3 _ rfl))) (by kernel_rfl) ?_
          have HS384 := HS270.u1
          have HS385 := HS384.u6
          have HS386 := HS385.u6
          have HS387 := HS386.u6
          have HS388 := HS387.u6
          have HS389 := HS388.u6
          have HS390 := HS389.u6
          have HS391 := HS390.drop
          have HS392 := HS391.drop
          have HS393 := HS392.drop
          have HS394 := HS393.drop
          have HS395 := HS394.drop
          have HS396 := HS395.drop
          replace h := JR298 _ h
          replace h := JR320 _ h
          injection h with h
          subst h
          exact ⟨f264, rfl, (L43.trans (L192.trans (L230.trans (L239.trans L265)))), HS396⟩
        · have c259 : ¬ (vt236 ≠ 0) := c259
          refine wpRwI 56 (x := (vt236 != 0)) (v := false) (by kernel_rfl) (bne_eq_false_iff_eq.mpr (Decidable.of_not_not c259)) ?_
          refine wpRwI 57 (x := (vt236 != 0)) (v := false) (by kernel_rfl) (bne_eq_false_iff_eq.mpr (Decidable.of_not_not c259)) ?_
          refine condF (by kernel_rfl) ?_
          refine wp_skip ?_
          refine hK243 _ _ ?_
          refine wp_region_lit ?_
          refine seqL3 (by kernel_rfl) ?_
          refine seqK rfl (does_lit (e := (tInt .i64)) (E := 52) (vs := #[(0, Value.int .i64 vt226), (1, Value.int .i64 vt235)]) (cs := #[.int .i64 vt226, .int .i64 vt235]) (xs := ([vt226, vt235] : List Int)) rfl Try.underlying62 (by kernel_rfl) (by kernel_rfl) ⟨[.int .i64 vt226], _, rfl, rfl, ⟨[.int .i64 vt235], _, rfl, rfl, rfl⟩⟩ rfl HS241 ?_ (by decide))
          intro b271 W272 s273 HS274 _ HO275
          have hq_ := guard_some h; clear h; obtain ⟨c277, h⟩ := hq_
          have c277 : (l196.length + 2) * 8 ≤ 140737488355328 := c277
          have HS278 := HS274.u3
          have HS279 := HS278.u1
          refine seqK rfl (does_append1 (e := (tInt .i64)) (E := 52) (xs := l196) (ys := ([vt226, vt235] : List Int)) rfl (by kernel_rfl : _ = Value.slice A197 l196.length c198) (by kernel_rfl : _ = Value.slice (some ⟨b271, 0, none⟩) ([vt226, vt235] : List Int).length 2) Try.underlying62 inf52 (HO200.mono (L230.trans L239)) HO275 HS279 c277 (lim63 c277 (by decide)) ?_)
          intro A280 c281 s282 W283 HS284 HO285
          refine seqS1 (a' := ⟨#[.agg #[.int .i64 a4.Lo, .int .i64 a4.Hi, .bool a4.Unknown], .agg #[.int .i64 b5.Lo, .int .i64 b5.Hi, .bool b5.Unknown], .func (.func 110) #[] #[.pointer (some ⟨b1, 0, none⟩)], .func (.func 111) #[] #[.pointer (some ⟨b1, 0, none⟩)], .pointer (some ⟨b8, 0, none⟩), .pointer (some ⟨b12, 0, none⟩), undef, undef, .pointer (some ⟨b16, 0, none⟩), .slice A280 (l196 ++ ([vt226, vt235] : List Int)).length c281, undef, .int .i64 (rd ([a4.Lo, a4.Hi] : List Int) x53), undef, .int .i64 (rd ([b5.Lo, b5.Hi] : List Int) x201), .int .i64 vt226, .int .i64 vt227, .int .i64 vt235, .int .i64 vt236, .pointer (some ⟨b8, 0, none⟩), .int .i64 a4.Lo, .pointer (some ⟨b8, 1, none⟩), .int .i64 a4.Hi, .slice (some ⟨b26, 0, none⟩) ([a4.Lo, a4.Hi] : List Int).length 2, .int .i64 (([a4.Lo, a4.Hi] : List Int).length : Int), .int .i64 x53, .bool true, .pointer (some ⟨b26, 0 + (x53 : Int).toNat * 1, none⟩), .int .i64 (rd ([a4.Lo, a4.Hi] : List Int) x53), .pointer (some ⟨b12, 0, none⟩), .int .i64 b5.Lo, .pointer (some ⟨b12, 1, none⟩), .int .i64 b5.Hi, .slice (some ⟨b77, 0, none⟩) ([b5.Lo, b5.Hi] : List Int).length 2, .int .i64 (([b5.Lo, b5.Hi] : List Int).length : Int), .int .i64 x201, .bool true, .pointer (some ⟨b77, 0 + (x201 : Int).toNat * 1, none⟩), .int .i64 (rd ([b5.Lo, b5.Hi] : List Int) x201), .tuple #[.int .i64 vt226, .int .i64 vt227], .func (.func 110) #[] #[.pointer (some ⟨b1, 0, none⟩)], .int .i64 (rd ([a4.Lo, a4.Hi] : List Int) x53), .int .i64 (rd ([b5.Lo, b5.Hi] : List Int) x201), .tuple #[.int .i64 vt226, .int .i64 vt227], .int .i64 vt226, .int .i64 vt227, .tuple #[.int .i64 vt235, .int .i64 vt236], .func (.func 111) #[] #[.pointer (some ⟨b1, 0, none⟩)], .int .i64 (rd ([a4.Lo, a4.Hi] : List Int) x53), .int .i64 (rd ([b5.Lo, b5.Hi] : List Int) x201), .tuple #[.int .i64 vt235, .int .i64 vt236], .int .i64 vt235, .int .i64 vt236, .int .i64 vt227, .bool false, .bool false, .int .i64 vt236, .bool false, .bool false, (j195 28), .slice A197 l196.length c198, .int .i64 vt226, .int .i64 vt235, .slice (some ⟨b271, 0, none⟩) ([vt226, vt235] : List Int).length 2, .slice A280 (l196 ++ ([vt226, vt235] : List Int)).length c281, (j195 34), (j46 46), undef, undef, undef, undef, undef], []⟩) (by kernel_rfl) ?_
          refine wpList_nil ?_
          refine hn212 _ _ ?_
          refine hK209 _ _ ?_
          refine wp_region_lit ?_
          refine seqS2 (a' := ⟨#[.agg #[.int .i64 a4.Lo, .int .i64 a4.Hi, .bool a4.Unknown], .agg #[.int .i64 b5.Lo, .int .i64 b5.Hi, .bool b5.Unknown], .func (.func 110) #[] #[.pointer (some ⟨b1, 0, none⟩)], .func (.func 111) #[] #[.pointer (some ⟨b1, 0, none⟩)], .pointer (some ⟨b8, 0, none⟩), .pointer (some ⟨b12, 0, none⟩), undef, undef, .pointer (some ⟨b16, 0, none⟩), .slice A280 (l196 ++ ([vt226, vt235] : List Int)).length c281, undef, .int .i64 (rd ([a4.Lo, a4.Hi] : List Int) x53), undef, .int .i64 (rd ([b5.Lo, b5.Hi] : List Int) x201), .int .i64 vt226, .int .i64 vt227, .int .i64 vt235, .int .i64 vt236, .pointer (some ⟨b8, 0, none⟩), .int .i64 a4.Lo, .pointer (some ⟨b8, 1, none⟩), .int .i64 a4.Hi, .slice (some ⟨b26, 0, none⟩) ([a4.Lo, a4.Hi] : List Int).length 2, .int .i64 (([a4.Lo, a4.Hi] : List Int).length : Int), .int .i64 x53, .bool true, .pointer (some ⟨b26, 0 + (x53 : Int).toNat * 1, none⟩), .int .i64 (rd ([a4.Lo, a4.Hi] : List Int) x53), .pointer (some ⟨b12, 0, none⟩), .int .i64 b5.Lo, .pointer (some ⟨b12, 1, none⟩), .int .i64 b5.Hi, .slice (some ⟨b77, 0, none⟩) ([b5.Lo, b5.Hi] : List Int).length 2, .int .i64 (([b5.Lo, b5.Hi] : List Int).length : Int), .int .i64 (w64 (x201 + 1)), .bool true, .pointer (some ⟨b77, 0 + (x201 : Int).toNat * 1, none⟩), .int .i64 (rd ([b5.Lo, b5.Hi] : List Int) x201), .tuple #[.int .i64 vt226, .int .i64 vt227], .func (.func 110) #[] #[.pointer (some ⟨b1, 0, none⟩)], .int .i64 (rd ([a4.Lo, a4.Hi] : List Int) x53), .int .i64 (rd ([b5.Lo, b5.Hi] : List Int) x201), .tuple #[.int .i64 vt226, .int .i64 vt227], .int .i64 vt226, .int .i64 vt227, .tuple #[.int .i64 vt235, .int .i64 vt236], .func (.func 111) #[] #[.pointer (some ⟨b1, 0, none⟩)], .int .i64 (rd ([a4.Lo, a4.Hi] : List Int) x53), .int .i64 (rd ([b5.Lo, b5.Hi] : List Int) x201), .tuple #[.int .i64 vt235, .int .i64 vt236], .int .i64 vt235, .int .i64 vt236, .int .i64 vt227, .bool false, .bool false, .int .i64 vt236, .bool false, .bool false, (j195 28), .slice A197 l196.length c198, .int .i64 vt226, .int .i64 vt235, .slice (some ⟨b271, 0, none⟩) ([vt226, vt235] : List Int).length 2, .slice A280 (l196 ++ ([vt226, vt235] : List Int)).length c281, .int .i64 (w64 (x201 + 1)), (j46 46), undef, undef, undef, undef, undef], []⟩) (by kernel_rfl) ?_
          refine wpList_nil ?_
          refine hK189 n190 _ _ (Nat.lt_succ_self _) ?_
          have HS300 := HS284.u1
          have HS301 := HS300.u6
          have HS302 := HS301.u6
          have HS303 := HS302.u6
          have HS304 := HS303.u6
          have HS305 := HS304.u5
          have HS306 := HS305.u6
          exact ⟨f238, A280, c281, s282, (l196 ++ ([vt226, vt235] : List Int)), (w64 (x201 + 1)), (fun i_ => [Value.int .i64 (rd ([b5.Lo, b5.Hi] : List Int) x201), Value.int .i64 vt226, Value.int .i64 vt227, Value.int .i64 vt235, Value.int .i64 vt236, Value.bool true, Value.pointer (some ⟨b77, 0 + (x201 : Int).toNat * 1, none⟩), Value.int .i64 (rd ([b5.Lo, b5.Hi] : List Int) x201), Value.tuple #[.int .i64 vt226, .int .i64 vt227], Value.func (.func 110) #[] #[.pointer (some ⟨b1, 0, none⟩)], Value.int .i64 (rd ([a4.Lo, a4.Hi] : List Int) x53), Value.int .i64 (rd ([b5.Lo, b5.Hi] : List Int) x201), Value.tuple #[.int .i64 vt226, .int .i64 vt227], Value.int .i64 vt226, Value.int .i64 vt227, Value.tuple #[.int .i64 vt235, .int .i64 vt236], Value.func (.func 111) #[] #[.pointer (some ⟨b1, 0, none⟩)], Value.int .i64 (rd ([a4.Lo, a4.Hi] : List Int) x53), Value.int .i64 (rd ([b5.Lo, b5.Hi] : List Int) x201), Value.tuple #[.int .i64 vt235, .int .i64 vt236], Value.int .i64 vt235, Value.int .i64 vt236, Value.int .i64 vt227, Value.bool false, Value.bool false, Value.int .i64 vt236, Value.bool false, Value.bool false, (j195 28), Value.slice A197 l196.length c198, Value.int .i64 vt226, Value.int .i64 vt235, Value.slice (some ⟨b271, 0, none⟩) ([vt226, vt235] : List Int).length 2, Value.slice A280 (l196 ++ ([vt226, vt235] : List Int)).length c281, Value.int .i64 (w64 (x201 + 1))].getD i_ undef), (L192.trans (L230.trans L239)), HS306, HO285, h, (by kernel_rfl)⟩
    · have c207 : ¬ (x201 < (([b5.Lo, b5.Hi] : List Int).length : Int)) := c207
      refine wpRwI 35 (x := (decide (x201 < (([b5.Lo, b5.Hi] : List Int).length : Int)))) (v := false) (by kernel_rfl) (decide_eq_false c207) ?_
      refine condF (by kernel_rfl) ?_
      refine wp_exit ?_
      refine hx84 _ _ ?_
      exact J297 f191 A197 c198 s199 l196 (fun i_ => [(j195 0), (j195 1), (j195 2), (j195 3), (j195 4), Value.int .i64 x201, Value.bool false, (j195 6), (j195 7), (j195 8), (j195 9), (j195 10), (j195 11), (j195 12), (j195 13), (j195 14), (j195 15), (j195 16), (j195 17), (j195 18), (j195 19), (j195 20), (j195 21), (j195 22), (j195 23), (j195 24), (j195 25), (j195 26), (j195 27), (j195 28), (j195 29), (j195 30), (j195 31), (j195 32), (j195 33), (j195 34)].getD i_ undef) W193 _ L192 h HS194 HO200 (by kernel_rfl)
  · have c59 : ¬ (x53 < (([a4.Lo, a4.Hi] : List Int).length : Int)) := c59
    refine wpRwI 25 (x := (decide (x53 < (([a4.Lo, a4.Hi] : List Int).length : Int)))) (v := false) (by kernel_rfl) (decide_eq_false c59) ?_
    refine condF (by kernel_rfl) ?_
    refine wp_exit ?_
    refine hx33 _ _ ?_
    exact J319 f42 A48 c49 s50 l47 (fun i_ => [(j46 0), (j46 1), (j46 2), (j46 3), (j46 4), (j46 5), Value.int .i64 x53, Value.bool false, (j46 7), (j46 8), (j46 9), (j46 10), (j46 11), (j46 12), (j46 13), (j46 14), (j46 15), (j46 16), (j46 17), (j46 18), (j46 19), (j46 20), (j46 21), (j46 22), (j46 23), (j46 24), (j46 25), (j46 26), (j46 27), (j46 28), (j46 29), (j46 30), (j46 31), (j46 32), (j46 33), (j46 34), (j46 35), (j46 36), (j46 37), (j46 38), (j46 39), (j46 40), (j46 41), (j46 42), (j46 43), (j46 44), (j46 45), (j46 46)].getD i_ undef) W44 _ L43 h HS45 HO51 (by kernel_rfl)

set_option maxRecDepth 100000 in
set_option maxHeartbeats 4000000 in
theorem bound_Mul_Light.calls (k : Nat)  (a1 : S_Bound) (b2 : S_Bound) (unit3 : Int) {t w : World} {f : FM} {H : List Seg} (HS : St t w f (H)) (r1 : S_Bound) (h : bound_Mul_Light k a1 b2 unit3 = some r1) :
    Calls Try.prog 85 #[.agg #[.int .i64 a1.Lo, .int .i64 a1.Hi, .bool a1.Unknown], .agg #[.int .i64 b2.Lo, .int .i64 b2.Hi, .bool b2.Unknown], .int .i64 unit3] w (fun e w' => ∃ (g : FM), e = .returned (Value.agg #[.int .i64 r1.Lo, .int .i64 r1.Hi, .bool r1.Unknown]) ∧ FM.le f g ∧ St t w' g (H)) := by
  unfold bound_Mul_Light at h
  refine enter Try.func85 rfl (tm := #[.agg #[.int .i64 a1.Lo, .int .i64 a1.Hi, .bool a1.Unknown], .agg #[.int .i64 b2.Lo, .int .i64 b2.Hi, .bool b2.Unknown], .int .i64 unit3, undef, undef, undef, undef, undef, undef, undef, undef, undef, undef, undef, undef, undef, undef, undef, undef, undef]) (by kernel_rfl) ?_
  intro B hret hnor hnp
  refine wp_seq_k (fun K4 hK5 => ?_)
  refine wp_region_lit ?_
  refine seqK rfl (does_box (cs := #[.int .i64 a1.Lo, .int .i64 a1.Hi, .bool a1.Unknown]) rfl (by kernel_rfl : _ = Value.agg #[.int .i64 a1.Lo, .int .i64 a1.Hi, .bool a1.Unknown]) rfl HS ?_)
  intro b6 W7 HS8
  refine seqK rfl (does_box (cs := #[.int .i64 b2.Lo, .int .i64 b2.Hi, .bool b2.Unknown]) rfl (by kernel_rfl : _ = Value.agg #[.int .i64 b2.Lo, .int .i64 b2.Hi, .bool b2.Unknown]) rfl HS8 ?_)
  intro b10 W11 HS12
  refine seqK rfl (does_box (cs := #[.int .i64 unit3]) rfl (by kernel_rfl : _ = Value.int .i64 unit3) rfl HS12 ?_)
  intro b14 W15 HS16
  refine seqK rfl (does_alloc (z := Value.agg #[.int .i64 0, .int .i64 0, .bool false]) (cs := #[.int .i64 0, .int .i64 0, .bool false]) rfl (by kernel_rfl) rfl HS16 ?_)
  intro b18 W19 HS20
  refine wpList_nil ?_
  refine hK5 _ _ ?_
  refine wp_seq_k (fun K22 hK23 => ?_)
  refine wp_seq_k (fun K24 hK25 => ?_)
  refine wp_region_lit ?_
  refine seqK rfl (does_run (run_loadN (n := 3) rfl Try.underlying54 rfl (by kernel_rfl) (by kernel_rfl : _ = Value.pointer (some ⟨b6, 0, none⟩)) (cs := [.int .i64 a1.Lo, .int .i64 a1.Hi, .bool a1.Unknown]) rfl (HS20.u3.cells 0 3 _ rfl)) ?_)
  refine seqK rfl (does_run (run_loadN (n := 3) rfl Try.underlying54 rfl (by kernel_rfl) (by kernel_rfl : _ = Value.pointer (some ⟨b10, 0, none⟩)) (cs := [.int .i64 b2.Lo, .int .i64 b2.Hi, .bool b2.Unknown]) rfl (HS20.u2.cells 0 3 _ rfl)) ?_)
  have hq_ := bind_some h; clear h; obtain ⟨vt26, hc27, h⟩ := hq_
  refine seqK rfl (does_call (f := 108) (args := #[.agg #[.int .i64 a1.Lo, .int .i64 a1.Hi, .bool a1.Unknown], .agg #[.int .i64 b2.Lo, .int .i64 b2.Hi, .bool b2.Unknown]]) (by kernel_rfl) (bound_vague_Light.calls k a1 b2 HS20 vt26 hc27) ?_)
  rintro _ W30 ⟨f28, rfl, L29, HS31⟩
  refine ⟨_, rfl, ?_⟩
  refine seqS1 (a' := ⟨#[.agg #[.int .i64 a1.Lo, .int .i64 a1.Hi, .bool a1.Unknown], .agg #[.int .i64 b2.Lo, .int .i64 b2.Hi, .bool b2.Unknown], .int .i64 unit3, .pointer (some ⟨b6, 0, none⟩), .pointer (some ⟨b10, 0, none⟩), .pointer (some ⟨b14, 0, none⟩), .pointer (some ⟨b18, 0, none⟩), .agg #[.int .i64 a1.Lo, .int .i64 a1.Hi, .bool a1.Unknown], .agg #[.int .i64 b2.Lo, .int .i64 b2.Hi, .bool b2.Unknown], .bool vt26, .bool vt26, undef, undef, undef, undef, undef, undef, undef, undef, undef], []⟩) (by kernel_rfl) ?_
  have hq_ := ite_some h; clear h; rcases hq_ with ⟨c32, h⟩ | ⟨c32, h⟩
  · have c32 : vt26 = true := c32
    refine seqRwI 9 (x := vt26) (v := true) (by kernel_rfl) c32 ?_
    refine seqRwI 10 (x := vt26) (v := true) (by kernel_rfl) c32 ?_
    refine seqS3 (a' := ⟨#[.agg #[.int .i64 a1.Lo, .int .i64 a1.Hi, .bool a1.Unknown], .agg #[.int .i64 b2.Lo, .int .i64 b2.Hi, .bool b2.Unknown], .int .i64 unit3, .pointer (some ⟨b6, 0, none⟩), .pointer (some ⟨b10, 0, none⟩), .pointer (some ⟨b14, 0, none⟩), .pointer (some ⟨b18, 0, none⟩), .agg #[.int .i64 a1.Lo, .int .i64 a1.Hi, .bool a1.Unknown], .agg #[.int .i64 b2.Lo, .int .i64 b2.Hi, .bool b2.Unknown], .bool true, .bool true, undef, undef, .bool true, undef, undef, undef, undef, undef, undef], []⟩) (by kernel_rfl) ?_
    refine wpList_nil ?_
    refine hK25 _ _ ?_
    refine condT (by kernel_rfl) ?_
    refine wp_seq_k (fun K33 hK34 => ?_)
    refine wp_region_lit ?_
    have hq_ := bind_some h; clear h; obtain ⟨vt35, hc36, h⟩ := hq_
    refine seqK rfl (does_call (f := 82) (args := #[]) (by kernel_rfl) (bound_None_Light.calls k  HS31 vt35 hc36) ?_)
    rintro _ W39 ⟨f37, rfl, L38, HS40⟩
    refine ⟨_, rfl, ?_⟩
    refine seqK rfl (does_store (n := 3) (vs := [.int .i64 vt35.Lo, .int .i64 vt35.Hi, .bool vt35.Unknown]) (cs' := #[.int .i64 vt35.Lo, .int .i64 vt35.Hi, .bool vt35.Unknown]) rfl (by kernel_rfl) (by kernel_rfl : _ = Value.pointer (some ⟨b18, 0, none⟩)) (by kernel_rfl : _ = Value.agg #[.int .i64 vt35.Lo, .int .i64 vt35.Hi, .bool vt35.Unknown]) rfl rfl (by intro u_ hu_; simp only [List.mem_cons, List.not_mem_nil, or_false] at hu_; rcases hu_ with rfl | rfl | rfl <;> rfl) HS40 (Nat.le_of_ble_eq_true rfl) (by kernel_rfl) ?_)
    intro W41 HS42
    refine wpList_nil ?_
    refine hK34 _ _ ?_
    refine wp_ret ?_
    refine hret _ _ ?_
    refine ends (v := Value.agg #[.int .i64 vt35.Lo, .int .i64 vt35.Hi, .bool vt35.Unknown]) (results1 (q1 := .cell 6 54) (by kernel_rfl) (resN (n := 3) (cs := [.int .i64 vt35.Lo, .int .i64 vt35.Hi, .bool vt35.Unknown]) (by kernel_rfl : _ = Value.pointer (some ⟨b18, 0, none⟩)) Try.underlying54 rfl (by kernel_rfl) rfl (HS42.cells 0 3 _ rfl))) (by kernel_rfl) ?_
    have HS67 := HS42.drop
    have HS68 := HS67.drop
    have HS69 := HS68.drop
    have HS70 := HS69.drop
    injection h with h
    subst h
    exact ⟨f37, rfl, (L29.trans L38), HS70⟩
  · have c32 : ¬ (vt26 = true) := c32
    refine seqRwI 9 (x := vt26) (v := false) (by kernel_rfl) (Bool.eq_false_iff.mpr c32) ?_
    refine seqRwI 10 (x := vt26) (v := false) (by kernel_rfl) (Bool.eq_false_iff.mpr c32) ?_
    refine seqG (by kernel_rfl) (does_run (run_load rfl Try.underlying2 rfl (by kernel_rfl : _ = Value.pointer (some ⟨b14, 0, none⟩)) (HS31.u1.cell 0)) ?_)
    refine seqS2 (a' := ⟨#[.agg #[.int .i64 a1.Lo, .int .i64 a1.Hi, .bool a1.Unknown], .agg #[.int .i64 b2.Lo, .int .i64 b2.Hi, .bool b2.Unknown], .int .i64 unit3, .pointer (some ⟨b6, 0, none⟩), .pointer (some ⟨b10, 0, none⟩), .pointer (some ⟨b14, 0, none⟩), .pointer (some ⟨b18, 0, none⟩), .agg #[.int .i64 a1.Lo, .int .i64 a1.Hi, .bool a1.Unknown], .agg #[.int .i64 b2.Lo, .int .i64 b2.Hi, .bool b2.Unknown], .bool false, .bool false, .int .i64 unit3, .bool (decide (unit3 < 1)), .bool (decide (unit3 < 1)), undef, undef, undef, undef, undef, undef], []⟩) (by kernel_rfl) ?_
    refine wpList_nil ?_
    refine hK25 _ _ ?_
    have hq_ := ite_some h; clear h; rcases hq_ with ⟨c44, h⟩ | ⟨c44, h⟩
    · have c44 : unit3 < 1 := c44
      refine wpRwI 12 (x := (decide (unit3 < 1))) (v := true) (by kernel_rfl) (decide_eq_true c44) ?_
      refine wpRwI 13 (x := (decide (unit3 < 1))) (v := true) (by kernel_rfl) (decide_eq_true c44) ?_
      refine condT (by kernel_rfl) ?_
      refine wp_seq_k (fun K45 hK46 => ?_)
      refine wp_region_lit ?_
      have hq_ := bind_some h; clear h; obtain ⟨vt47, hc48, h⟩ := hq_
      refine seqK rfl (does_call (f := 82) (args := #[]) (by kernel_rfl) (bound_None_Light.calls k  HS31 vt47 hc48) ?_)
      rintro _ W51 ⟨f49, rfl, L50, HS52⟩
      refine ⟨_, rfl, ?_⟩
      refine seqK rfl (does_store (n := 3) (vs := [.int .i64 vt47.Lo, .int .i64 vt47.Hi, .bool vt47.Unknown]) (cs' := #[.int .i64 vt47.Lo, .int .i64 vt47.Hi, .bool vt47.Unknown]) rfl (by kernel_rfl) (by kernel_rfl : _ = Value.pointer (some ⟨b18, 0, none⟩)) (by kernel_rfl : _ = Value.agg #[.int .i64 vt47.Lo, .int .i64 vt47.Hi, .bool vt47.Unknown]) rfl rfl (by intro u_ hu_; simp only [List.mem_cons, List.not_mem_nil, or_false] at hu_; rcases hu_ with rfl | rfl | rfl <;> rfl) HS52 (Nat.le_of_ble_eq_true rfl) (by kernel_rfl) ?_)
      intro W53 HS54
      refine wpList_nil ?_
      refine hK46 _ _ ?_
      refine wp_ret ?_
      refine hret _ _ ?_
      refine ends (v := Value.agg #[.int .i64 vt47.Lo, .int .i64 vt47.Hi, .bool vt47.Unknown]) (results1 (q1 := .cell 6 54) (by kernel_rfl) (resN (n := 3) (cs := [.int .i64 vt47.Lo, .int .i64 vt47.Hi, .bool vt47.Unknown]) (by kernel_rfl : _ = Value.pointer (some ⟨b18, 0, none⟩)) Try.underlying54 rfl (by kernel_rfl) rfl (HS54.cells 0 3 _ rfl))) (by kernel_rfl) ?_
      have HS71 := HS54.drop
      have HS72 := HS71.drop
      have HS73 := HS72.drop
      have HS74 := HS73.drop
      injection h with h
      subst h
      exact ⟨f49, rfl, (L29.trans L50), HS74⟩
    · have c44 : ¬ (unit3 < 1) := c44
      refine wpRwI 12 (x := (decide (unit3 < 1))) (v := false) (by kernel_rfl) (decide_eq_false c44) ?_
      refine wpRwI 13 (x := (decide (unit3 < 1))) (v := false) (by kernel_rfl) (decide_eq_false c44) ?_
      refine condF (by kernel_rfl) ?_
      refine wp_skip ?_
      refine hK23 _ _ ?_
      refine wp_seq_k (fun K55 hK56 => ?_)
      refine wp_region_lit ?_
      refine seqK rfl (does_run (run_loadN (n := 3) rfl Try.underlying54 rfl (by kernel_rfl) (by kernel_rfl : _ = Value.pointer (some ⟨b6, 0, none⟩)) (cs := [.int .i64 a1.Lo, .int .i64 a1.Hi, .bool a1.Unknown]) rfl (HS31.u3.cells 0 3 _ rfl)) ?_)
      refine seqK rfl (does_run (run_loadN (n := 3) rfl Try.underlying54 rfl (by kernel_rfl) (by kernel_rfl : _ = Value.pointer (some ⟨b10, 0, none⟩)) (cs := [.int .i64 b2.Lo, .int .i64 b2.Hi, .bool b2.Unknown]) rfl (HS31.u2.cells 0 3 _ rfl)) ?_)
      have HS57 := HS31.u1
      have hq_ := bind_some h; clear h; obtain ⟨vt58, hc59, h⟩ := hq_
      refine seqL2 (by kernel_rfl) ?_
      refine seqK rfl (does_call (f := 109) (args := #[.agg #[.int .i64 a1.Lo, .int .i64 a1.Hi, .bool a1.Unknown], .agg #[.int .i64 b2.Lo, .int .i64 b2.Hi, .bool b2.Unknown], .func (.func 110) #[] #[.pointer (some ⟨b14, 0, none⟩)], .func (.func 111) #[] #[.pointer (some ⟨b14, 0, none⟩)]]) (by kernel_rfl) (bound_corners_Light__bound_Mul_Light_1__bound_Mul_Light_2.calls k b14 unit3 a1 b2 HS57 vt58 hc59) ?_)
      rintro _ W62 ⟨f60, rfl, L61, HS63⟩
      refine ⟨_, rfl, ?_⟩
      have HS64 := HS63.u1
      refine seqK rfl (does_store (n := 3) (vs := [.int .i64 vt58.Lo, .int .i64 vt58.Hi, .bool vt58.Unknown]) (cs' := #[.int .i64 vt58.Lo, .int .i64 vt58.Hi, .bool vt58.Unknown]) rfl (by kernel_rfl) (by kernel_rfl : _ = Value.pointer (some ⟨b18, 0, none⟩)) (by kernel_rfl : _ = Value.agg #[.int .i64 vt58.Lo, .int .i64 vt58.Hi, .bool vt58.Unknown]) rfl rfl (by intro u_ hu_; simp only [List.mem_cons, List.not_mem_nil, or_false] at hu_; rcases hu_ with rfl | rfl | rfl <;> rfl) HS64 (Nat.le_of_ble_eq_true rfl) (by kernel_rfl) ?_)
      intro W65 HS66
      refine wpList_nil ?_
      refine hK56 _ _ ?_
      refine wp_ret ?_
      refine hret _ _ ?_
      refine ends (v := Value.agg #[.int .i64 vt58.Lo, .int .i64 vt58.Hi, .bool vt58.Unknown]) (results1 (q1 := .cell 6 54) (by kernel_rfl) (resN (n := 3) (cs := [.int .i64 vt58.Lo, .int .i64 vt58.Hi, .bool vt58.Unknown]) (by kernel_rfl : _ = Value.pointer (some ⟨b18, 0, none⟩)) Try.underlying54 rfl (by kernel_rfl) rfl (HS66.cells 0 3 _ rfl))) (by kernel_rfl) ?_
      have HS75 := HS66.drop
      have HS76 := HS75.drop
      have HS77 := HS76.drop
      have HS78 := HS77.drop
      injection h with h
      subst h
      exact ⟨f60, rfl, (L29.trans L61), HS78⟩

set_option maxRecDepth 100000 in
set_option maxHeartbeats 4000000 in
theorem bound_Scale_Light.calls (k : Nat)  (a1 : S_Bound) (n2 : Int) (d3 : Int) {t w : World} {f : FM} {H : List Seg} (HS : St t w f (H)) (r1 : S_Bound) (h : bound_Scale_Light k a1 n2 d3 = some r1) :
    Calls Try.prog 48 #[.agg #[.int .i64 a1.Lo, .int .i64 a1.Hi, .bool a1.Unknown], .int .i64 n2, .int .i64 d3] w (fun e w' => ∃ (g : FM), e = .returned (Value.agg #[.int .i64 r1.Lo, .int .i64 r1.Hi, .bool r1.Unknown]) ∧ FM.le f g ∧ St t w' g (H)) := by
  unfold bound_Scale_Light at h
  refine enter Try.func48 rfl (tm := #[.agg #[.int .i64 a1.Lo, .int .i64 a1.Hi, .bool a1.Unknown], .int .i64 n2, .int .i64 d3, undef, undef, undef, undef, undef, undef, undef, undef, undef]) (by kernel_rfl) ?_
  intro B hret hnor hnp
  refine wp_seq_k (fun K4 hK5 => ?_)
  refine wp_region_lit ?_
  refine seqK rfl (does_box (cs := #[.int .i64 a1.Lo, .int .i64 a1.Hi, .bool a1.Unknown]) rfl (by kernel_rfl : _ = Value.agg #[.int .i64 a1.Lo, .int .i64 a1.Hi, .bool a1.Unknown]) rfl HS ?_)
  intro b6 W7 HS8
  refine seqK rfl (does_alloc (z := Value.agg #[.int .i64 0, .int .i64 0, .bool false]) (cs := #[.int .i64 0, .int .i64 0, .bool false]) rfl (by kernel_rfl) rfl HS8 ?_)
  intro b10 W11 HS12
  refine wpList_nil ?_
  refine hK5 _ _ ?_
  refine wp_seq_k (fun K14 hK15 => ?_)
  have HS16 := HS12.u1
  have HS17 := HS16.u1
  refine heldG (S := Sg t f ([(b6, .cells #[.int .i64 a1.Lo, .int .i64 a1.Hi, .bool a1.Unknown] 54 (0, 0))] :: H) [(5, [(b10, .cells #[.int .i64 0, .int .i64 0, .bool false] 54 (0, 0))])]) (n := 6) (by kernel_rfl) rfl HS17 ?_
  intro W18 HS19
  refine takeGQ 0 [] rfl (by kernel_rfl) (by kernel_rfl) (by kernel_rfl) (by kernel_rfl) (by kernel_rfl) (by kernel_rfl) hnp (Sg.g1 (Sx.of [[(b10, .cells #[.int .i64 0, .int .i64 0, .bool false] 54 (0, 0))]] (FM.le.refl _) HS19) (fun _ => St.only [] HS19 (FM.le.refl _))) (fun w_ hw_ => by obtain ⟨g_, hl_, hS_⟩ := hw_.st; exact run_loadN (n := 3) rfl Try.underlying54 rfl (by kernel_rfl) (by kernel_rfl : _ = Value.pointer (some ⟨b6, 0, none⟩)) (cs := [.int .i64 a1.Lo, .int .i64 a1.Hi, .bool a1.Unknown]) rfl (hS_.cells 0 3 _ rfl)) ?_
  refine takeG [1, 3] (n := 5) (fuel := 3) (l' := #[true, true, false, true, false, false]) (a' := ⟨#[.agg #[.int .i64 a1.Lo, .int .i64 a1.Hi, .bool a1.Unknown], .int .i64 n2, .int .i64 d3, .pointer (some ⟨b6, 0, none⟩), undef, undef, .pointer (some ⟨b10, 0, none⟩), .agg #[.int .i64 a1.Lo, .int .i64 a1.Hi, .bool a1.Unknown], .int .i64 n2, undef, .int .i64 d3, undef], []⟩) rfl (by kernel_rfl) (by kernel_rfl) (by kernel_rfl) hnp (Sg.g1 (Sx.of [[(b10, .cells #[.int .i64 0, .int .i64 0, .bool false] 54 (0, 0))]] (FM.le.refl _) HS19) (fun _ => St.only [] HS19 (FM.le.refl _))) ?_
  have hq_ := bind_some h; clear h; obtain ⟨vt20, hc21, h⟩ := hq_
  refine takeGE 2 (by kernel_rfl) rfl (by kernel_rfl) (does_call (f := 31) (args := #[.int .i64 n2]) (by kernel_rfl) (bound_Exact_Light.calls k n2 HS19 vt20 hc21) ?_)
  rintro _ W24 ⟨f22, rfl, L23, HS25⟩
  refine ⟨_, rfl, ?_⟩
  refine ⟨(Sg.g1 (Sx.of [[(b10, .cells #[.int .i64 0, .int .i64 0, .bool false] 54 (0, 0))]] L23 HS25) (fun _ => St.only [] HS25 L23)), ?_⟩
  have hq_ := bind_some h; clear h; obtain ⟨vt26, hc27, h⟩ := hq_
  refine takeGE 4 (by kernel_rfl) rfl (by kernel_rfl) (does_call (f := 85) (args := #[.agg #[.int .i64 a1.Lo, .int .i64 a1.Hi, .bool a1.Unknown], .agg #[.int .i64 vt20.Lo, .int .i64 vt20.Hi, .bool vt20.Unknown], .int .i64 d3]) (by kernel_rfl) (bound_Mul_Light.calls k a1 vt20 d3 HS25 vt26 hc27) ?_)
  rintro _ W30 ⟨f28, rfl, L29, HS31⟩
  refine ⟨_, rfl, ?_⟩
  refine ⟨(Sg.g1 (Sx.of [[(b10, .cells #[.int .i64 0, .int .i64 0, .bool false] 54 (0, 0))]] (L23.trans L29) HS31) (fun _ => St.only [] HS31 (L23.trans L29))), ?_⟩
  refine takeGE 5 (by kernel_rfl) rfl (by kernel_rfl) (does_store (n := 3) (vs := [.int .i64 vt26.Lo, .int .i64 vt26.Hi, .bool vt26.Unknown]) (cs' := #[.int .i64 vt26.Lo, .int .i64 vt26.Hi, .bool vt26.Unknown]) rfl (by kernel_rfl) (by kernel_rfl : _ = Value.pointer (some ⟨b10, 0, none⟩)) (by kernel_rfl : _ = Value.agg #[.int .i64 vt26.Lo, .int .i64 vt26.Hi, .bool vt26.Unknown]) rfl rfl (by intro u_ hu_; simp only [List.mem_cons, List.not_mem_nil, or_false] at hu_; rcases hu_ with rfl | rfl | rfl <;> rfl) HS31 (Nat.le_of_ble_eq_true rfl) (by kernel_rfl) ?_)
  intro W32 HS33
  refine ⟨(Sg.g1 (Sx.of [[(b10, .cells #[.int .i64 vt26.Lo, .int .i64 vt26.Hi, .bool vt26.Unknown] 54 (0, 0))]] (L23.trans L29) HS33) (fun hl_ => Bool.noConfusion (show true = false from hl_))), ?_⟩
  refine doneG (by kernel_rfl) ?_ _
  refine hK15 _ _ ?_
  refine wp_ret ?_
  refine hret _ _ ?_
  refine ends (v := Value.agg #[.int .i64 vt26.Lo, .int .i64 vt26.Hi, .bool vt26.Unknown]) (results1 (q1 := .cell 6 54) (by kernel_rfl) (resN (n := 3) (cs := [.int .i64 vt26.Lo, .int .i64 vt26.Hi, .bool vt26.Unknown]) (by kernel_rfl : _ = Value.pointer (some ⟨b10, 0, none⟩)) Try.underlying54 rfl (by kernel_rfl) rfl (HS33.cells 0 3 _ rfl))) (by kernel_rfl) ?_
  have HS34 := HS33.drop
  have HS35 := HS34.drop
  injection h with h
  subst h
  exact ⟨f28, rfl, (L23.trans L29), HS35⟩

set_option maxRecDepth 100000 in
set_option maxHeartbeats 4000000 in
theorem bound_Neg_Light.calls (k : Nat)  (b1 : S_Bound) {t w : World} {f : FM} {H : List Seg} (HS : St t w f (H)) (r1 : S_Bound) (h : bound_Neg_Light k b1 = some r1) :
    Calls Try.prog 89 #[.agg #[.int .i64 b1.Lo, .int .i64 b1.Hi, .bool b1.Unknown]] w (fun e w' => ∃ (g : FM), e = .returned (Value.agg #[.int .i64 r1.Lo, .int .i64 r1.Hi, .bool r1.Unknown]) ∧ FM.le f g ∧ St t w' g (H)) := by
  unfold bound_Neg_Light at h
  refine enter Try.func89 rfl (tm := #[.agg #[.int .i64 b1.Lo, .int .i64 b1.Hi, .bool b1.Unknown], undef, undef, undef, undef, undef, undef, undef, undef, undef, undef, undef, undef, undef]) (by kernel_rfl) ?_
  intro B hret hnor hnp
  refine wp_seq_k (fun K2 hK3 => ?_)
  refine wp_region_lit ?_
  refine seqK rfl (does_box (cs := #[.int .i64 b1.Lo, .int .i64 b1.Hi, .bool b1.Unknown]) rfl (by kernel_rfl : _ = Value.agg #[.int .i64 b1.Lo, .int .i64 b1.Hi, .bool b1.Unknown]) rfl HS ?_)
  intro b4 W5 HS6
  refine seqK rfl (does_alloc (z := Value.agg #[.int .i64 0, .int .i64 0, .bool false]) (cs := #[.int .i64 0, .int .i64 0, .bool false]) rfl (by kernel_rfl) rfl HS6 ?_)
  intro b8 W9 HS10
  refine wpList_nil ?_
  refine hK3 _ _ ?_
  refine wp_seq_k (fun K12 hK13 => ?_)
  refine wp_region_lit ?_
  refine seqK rfl (does_run (run_loadN (n := 3) rfl Try.underlying54 rfl (by kernel_rfl) (by kernel_rfl : _ = Value.pointer (some ⟨b4, 0, none⟩)) (cs := [.int .i64 b1.Lo, .int .i64 b1.Hi, .bool b1.Unknown]) rfl (HS10.u1.cells 0 3 _ rfl)) ?_)
  have hq_ := bind_some h; clear h; obtain ⟨vt14, hc15, h⟩ := hq_
  refine seqK rfl (does_call (f := 46) (args := #[.agg #[.int .i64 b1.Lo, .int .i64 b1.Hi, .bool b1.Unknown]]) (by kernel_rfl) (bound_Norm_Light.calls k b1 HS10 vt14 hc15) ?_)
  rintro _ W18 ⟨f16, rfl, L17, HS19⟩
  refine ⟨_, rfl, ?_⟩
  have HS20 := HS19.u1
  refine seqK rfl (does_store (n := 3) (vs := [.int .i64 vt14.Lo, .int .i64 vt14.Hi, .bool vt14.Unknown]) (cs' := #[.int .i64 vt14.Lo, .int .i64 vt14.Hi, .bool vt14.Unknown]) rfl (by kernel_rfl) (by kernel_rfl : _ = Value.pointer (some ⟨b4, 0, none⟩)) (by kernel_rfl : _ = Value.agg #[.int .i64 vt14.Lo, .int .i64 vt14.Hi, .bool vt14.Unknown]) rfl rfl (by intro u_ hu_; simp only [List.mem_cons, List.not_mem_nil, or_false] at hu_; rcases hu_ with rfl | rfl | rfl <;> rfl) HS20 (Nat.le_of_ble_eq_true rfl) (by kernel_rfl) ?_)
  intro W21 HS22
  refine wpList_nil ?_
  refine hK13 _ _ ?_
  refine wp_seq_k (fun K23 hK24 => ?_)
  refine wp_region_lit ?_
  refine seqL1 (by kernel_rfl) ?_
  refine seqK rfl (does_run (run_load rfl Try.underlying52 rfl (by kernel_rfl : _ = Value.pointer (some ⟨b4, 1, none⟩)) (HS22.cell 1)) ?_)
  refine seqL2 (by kernel_rfl) ?_
  refine seqK rfl (does_run (run_load rfl Try.underlying52 rfl (by kernel_rfl : _ = Value.pointer (some ⟨b4, 0, none⟩)) (HS22.cell 0)) ?_)
  refine seqL2 (by kernel_rfl) ?_
  refine seqK rfl (does_store (n := 1) (vs := [.int .i64 (w64 (0 - vt14.Hi))]) (cs' := #[.int .i64 (w64 (0 - vt14.Hi)), .int .i64 vt14.Hi, .bool vt14.Unknown]) rfl (by kernel_rfl) (by kernel_rfl : _ = Value.pointer (some ⟨b4, 0, none⟩)) (by kernel_rfl : _ = Value.int .i64 (w64 (0 - vt14.Hi))) rfl rfl (by intro u_ hu_; simp only [List.mem_cons, List.not_mem_nil, or_false] at hu_; subst hu_; rfl) HS22 (Nat.le_of_ble_eq_true rfl) (by kernel_rfl) ?_)
  intro W25 HS26
  refine seqL1 (by kernel_rfl) ?_
  refine seqK rfl (does_store (n := 1) (vs := [.int .i64 (w64 (0 - vt14.Lo))]) (cs' := #[.int .i64 (w64 (0 - vt14.Hi)), .int .i64 (w64 (0 - vt14.Lo)), .bool vt14.Unknown]) rfl (by kernel_rfl) (by kernel_rfl : _ = Value.pointer (some ⟨b4, 1, none⟩)) (by kernel_rfl : _ = Value.int .i64 (w64 (0 - vt14.Lo))) rfl rfl (by intro u_ hu_; simp only [List.mem_cons, List.not_mem_nil, or_false] at hu_; subst hu_; rfl) HS26 (Nat.le_of_ble_eq_true rfl) (by kernel_rfl) ?_)
  intro W27 HS28
  refine wpList_nil ?_
  refine hK24 _ _ ?_
  refine wp_seq_k (fun K29 hK30 => ?_)
  refine wp_region_lit ?_
  refine seqK rfl (does_run (run_loadN (n := 3) rfl Try.underlying54 rfl (by kernel_rfl) (by kernel_rfl : _ = Value.pointer (some ⟨b4, 0, none⟩)) (cs := [.int .i64 (w64 (0 - vt14.Hi)), .int .i64 (w64 (0 - vt14.Lo)), .bool vt14.Unknown]) rfl (HS28.cells 0 3 _ rfl)) ?_)
  have HS31 := HS28.u1
  refine seqK rfl (does_store (n := 3) (vs := [.int .i64 (w64 (0 - vt14.Hi)), .int .i64 (w64 (0 - vt14.Lo)), .bool vt14.Unknown]) (cs' := #[.int .i64 (w64 (0 - vt14.Hi)), .int .i64 (w64 (0 - vt14.Lo)), .bool vt14.Unknown]) rfl (by kernel_rfl) (by kernel_rfl : _ = Value.pointer (some ⟨b8, 0, none⟩)) (by kernel_rfl : _ = Value.agg #[.int .i64 (w64 (0 - vt14.Hi)), .int .i64 (w64 (0 - vt14.Lo)), .bool vt14.Unknown]) rfl rfl (by intro u_ hu_; simp only [List.mem_cons, List.not_mem_nil, or_false] at hu_; rcases hu_ with rfl | rfl | rfl <;> rfl) HS31 (Nat.le_of_ble_eq_true rfl) (by kernel_rfl) ?_)
  intro W32 HS33
  refine wpList_nil ?_
  refine hK30 _ _ ?_
  refine wp_ret ?_
  refine hret _ _ ?_
  refine ends (v := Value.agg #[.int .i64 (w64 (0 - vt14.Hi)), .int .i64 (w64 (0 - vt14.Lo)), .bool vt14.Unknown]) (results1 (q1 := .cell 2 54) (by kernel_rfl) (resN (n := 3) (cs := [.int .i64 (w64 (0 - vt14.Hi)), .int .i64 (w64 (0 - vt14.Lo)), .bool vt14.Unknown]) (by kernel_rfl : _ = Value.pointer (some ⟨b8, 0, none⟩)) Try.underlying54 rfl (by kernel_rfl) rfl (HS33.cells 0 3 _ rfl))) (by kernel_rfl) ?_
  have HS34 := HS33.drop
  have HS35 := HS34.drop
  injection h with h
  subst h
  exact ⟨f16, rfl, L17, HS35⟩

set_option maxRecDepth 100000 in
set_option maxHeartbeats 4000000 in
theorem bound_Add_Light.calls (k : Nat)  (a1 : S_Bound) (b2 : S_Bound) {t w : World} {f : FM} {H : List Seg} (HS : St t w f (H)) (r1 : S_Bound) (h : bound_Add_Light k a1 b2 = some r1) :
    Calls Try.prog 88 #[.agg #[.int .i64 a1.Lo, .int .i64 a1.Hi, .bool a1.Unknown], .agg #[.int .i64 b2.Lo, .int .i64 b2.Hi, .bool b2.Unknown]] w (fun e w' => ∃ (g : FM), e = .returned (Value.agg #[.int .i64 r1.Lo, .int .i64 r1.Hi, .bool r1.Unknown]) ∧ FM.le f g ∧ St t w' g (H)) := by
  unfold bound_Add_Light at h
  refine enter Try.func88 rfl (tm := #[.agg #[.int .i64 a1.Lo, .int .i64 a1.Hi, .bool a1.Unknown], .agg #[.int .i64 b2.Lo, .int .i64 b2.Hi, .bool b2.Unknown], undef, undef, undef, undef, undef, undef, undef, undef, undef, undef, undef, undef, undef, undef, undef, undef, undef, undef]) (by kernel_rfl) ?_
  intro B hret hnor hnp
  refine wp_seq_k (fun K3 hK4 => ?_)
  refine wp_region_lit ?_
  refine seqK rfl (does_box (cs := #[.int .i64 a1.Lo, .int .i64 a1.Hi, .bool a1.Unknown]) rfl (by kernel_rfl : _ = Value.agg #[.int .i64 a1.Lo, .int .i64 a1.Hi, .bool a1.Unknown]) rfl HS ?_)
  intro b5 W6 HS7
  refine seqK rfl (does_box (cs := #[.int .i64 b2.Lo, .int .i64 b2.Hi, .bool b2.Unknown]) rfl (by kernel_rfl : _ = Value.agg #[.int .i64 b2.Lo, .int .i64 b2.Hi, .bool b2.Unknown]) rfl HS7 ?_)
  intro b9 W10 HS11
  refine seqK rfl (does_alloc (z := Value.agg #[.int .i64 0, .int .i64 0, .bool false]) (cs := #[.int .i64 0, .int .i64 0, .bool false]) rfl (by kernel_rfl) rfl HS11 ?_)
  intro b13 W14 HS15
  refine wpList_nil ?_
  refine hK4 _ _ ?_
  refine wp_seq_k (fun K17 hK18 => ?_)
  refine wp_seq_k (fun K19 hK20 => ?_)
  refine wp_region_lit ?_
  refine seqK rfl (does_run (run_loadN (n := 3) rfl Try.underlying54 rfl (by kernel_rfl) (by kernel_rfl : _ = Value.pointer (some ⟨b5, 0, none⟩)) (cs := [.int .i64 a1.Lo, .int .i64 a1.Hi, .bool a1.Unknown]) rfl (HS15.u2.cells 0 3 _ rfl)) ?_)
  refine seqK rfl (does_run (run_loadN (n := 3) rfl Try.underlying54 rfl (by kernel_rfl) (by kernel_rfl : _ = Value.pointer (some ⟨b9, 0, none⟩)) (cs := [.int .i64 b2.Lo, .int .i64 b2.Hi, .bool b2.Unknown]) rfl (HS15.u1.cells 0 3 _ rfl)) ?_)
  have hq_ := bind_some h; clear h; obtain ⟨vt21, hc22, h⟩ := hq_
  refine seqK rfl (does_call (f := 108) (args := #[.agg #[.int .i64 a1.Lo, .int .i64 a1.Hi, .bool a1.Unknown], .agg #[.int .i64 b2.Lo, .int .i64 b2.Hi, .bool b2.Unknown]]) (by kernel_rfl) (bound_vague_Light.calls k a1 b2 HS15 vt21 hc22) ?_)
  rintro _ W25 ⟨f23, rfl, L24, HS26⟩
  refine ⟨_, rfl, ?_⟩
  refine wpList_nil ?_
  refine hK20 _ _ ?_
  have hq_ := ite_some h; clear h; rcases hq_ with ⟨c28, h⟩ | ⟨c28, h⟩
  · have c28 : vt21 = true := c28
    refine wpRwI 7 (x := vt21) (v := true) (by kernel_rfl) c28 ?_
    refine condT (by kernel_rfl) ?_
    refine wp_seq_k (fun K29 hK30 => ?_)
    refine wp_region_lit ?_
    have hq_ := bind_some h; clear h; obtain ⟨vt31, hc32, h⟩ := hq_
    refine seqK rfl (does_call (f := 82) (args := #[]) (by kernel_rfl) (bound_None_Light.calls k  HS26 vt31 hc32) ?_)
    rintro _ W35 ⟨f33, rfl, L34, HS36⟩
    refine ⟨_, rfl, ?_⟩
    refine seqK rfl (does_store (n := 3) (vs := [.int .i64 vt31.Lo, .int .i64 vt31.Hi, .bool vt31.Unknown]) (cs' := #[.int .i64 vt31.Lo, .int .i64 vt31.Hi, .bool vt31.Unknown]) rfl (by kernel_rfl) (by kernel_rfl : _ = Value.pointer (some ⟨b13, 0, none⟩)) (by kernel_rfl : _ = Value.agg #[.int .i64 vt31.Lo, .int .i64 vt31.Hi, .bool vt31.Unknown]) rfl rfl (by intro u_ hu_; simp only [List.mem_cons, List.not_mem_nil, or_false] at hu_; rcases hu_ with rfl | rfl | rfl <;> rfl) HS36 (Nat.le_of_ble_eq_true rfl) (by kernel_rfl) ?_)
    intro W37 HS38
    refine wpList_nil ?_
    refine hK30 _ _ ?_
    refine wp_ret ?_
    refine hret _ _ ?_
    refine ends (v := Value.agg #[.int .i64 vt31.Lo, .int .i64 vt31.Hi, .bool vt31.Unknown]) (results1 (q1 := .cell 4 54) (by kernel_rfl) (resN (n := 3) (cs := [.int .i64 vt31.Lo, .int .i64 vt31.Hi, .bool vt31.Unknown]) (by kernel_rfl : _ = Value.pointer (some ⟨b13, 0, none⟩)) Try.underlying54 rfl (by kernel_rfl) rfl (HS38.cells 0 3 _ rfl))) (by kernel_rfl) ?_
    have HS49 := HS38.drop
    have HS50 := HS49.drop
    have HS51 := HS50.drop
    injection h with h
    subst h
    exact ⟨f33, rfl, (L24.trans L34), HS51⟩
  · have c28 : ¬ (vt21 = true) := c28
    refine wpRwI 7 (x := vt21) (v := false) (by kernel_rfl) (Bool.eq_false_iff.mpr c28) ?_
    refine condF (by kernel_rfl) ?_
    refine wp_skip ?_
    refine hK18 _ _ ?_
    refine wp_seq_k (fun K39 hK40 => ?_)
    refine wp_region_lit ?_
    refine seqL1 (by kernel_rfl) ?_
    refine seqK rfl (does_run (run_load rfl Try.underlying52 rfl (by kernel_rfl : _ = Value.pointer (some ⟨b5, 0, none⟩)) (HS26.u2.cell 0)) ?_)
    refine seqL1 (by kernel_rfl) ?_
    refine seqK rfl (does_run (run_load rfl Try.underlying52 rfl (by kernel_rfl : _ = Value.pointer (some ⟨b9, 0, none⟩)) (HS26.u1.cell 0)) ?_)
    refine seqL2 (by kernel_rfl) ?_
    refine seqK rfl (does_run (run_load rfl Try.underlying52 rfl (by kernel_rfl : _ = Value.pointer (some ⟨b5, 1, none⟩)) (HS26.u2.cell 1)) ?_)
    refine seqL1 (by kernel_rfl) ?_
    refine seqK rfl (does_run (run_load rfl Try.underlying52 rfl (by kernel_rfl : _ = Value.pointer (some ⟨b9, 1, none⟩)) (HS26.u1.cell 1)) ?_)
    have hq_ := bind_some h; clear h; obtain ⟨vt41, hc42, h⟩ := hq_
    refine seqL1 (by kernel_rfl) ?_
    refine seqK rfl (does_call (f := 23) (args := #[.int .i64 (w64 (a1.Lo + b2.Lo)), .int .i64 (w64 (a1.Hi + b2.Hi))]) (by kernel_rfl) (bound_Of_Light.calls k (w64 (a1.Lo + b2.Lo)) (w64 (a1.Hi + b2.Hi)) HS26 vt41 hc42) ?_)
    rintro _ W45 ⟨f43, rfl, L44, HS46⟩
    refine ⟨_, rfl, ?_⟩
    refine seqK rfl (does_store (n := 3) (vs := [.int .i64 vt41.Lo, .int .i64 vt41.Hi, .bool vt41.Unknown]) (cs' := #[.int .i64 vt41.Lo, .int .i64 vt41.Hi, .bool vt41.Unknown]) rfl (by kernel_rfl) (by kernel_rfl : _ = Value.pointer (some ⟨b13, 0, none⟩)) (by kernel_rfl : _ = Value.agg #[.int .i64 vt41.Lo, .int .i64 vt41.Hi, .bool vt41.Unknown]) rfl rfl (by intro u_ hu_; simp only [List.mem_cons, List.not_mem_nil, or_false] at hu_; rcases hu_ with rfl | rfl | rfl <;> rfl) HS46 (Nat.le_of_ble_eq_true rfl) (by kernel_rfl) ?_)
    intro W47 HS48
    refine wpList_nil ?_
    refine hK40 _ _ ?_
    refine wp_ret ?_
    refine hret _ _ ?_
    refine ends (v := Value.agg #[.int .i64 vt41.Lo, .int .i64 vt41.Hi, .bool vt41.Unknown]) (results1 (q1 := .cell 4 54) (by kernel_rfl) (resN (n := 3) (cs := [.int .i64 vt41.Lo, .int .i64 vt41.Hi, .bool vt41.Unknown]) (by kernel_rfl : _ = Value.pointer (some ⟨b13, 0, none⟩)) Try.underlying54 rfl (by kernel_rfl) rfl (HS48.cells 0 3 _ rfl))) (by kernel_rfl) ?_
    have HS52 := HS48.drop
    have HS53 := HS52.drop
    have HS54 := HS53.drop
    injection h with h
    subst h
    exact ⟨f43, rfl, (L24.trans L44), HS54⟩

set_option maxRecDepth 100000 in
set_option maxHeartbeats 4000000 in
theorem bound_Sub_Light.calls (k : Nat)  (a1 : S_Bound) (b2 : S_Bound) {t w : World} {f : FM} {H : List Seg} (HS : St t w f (H)) (r1 : S_Bound) (h : bound_Sub_Light k a1 b2 = some r1) :
    Calls Try.prog 51 #[.agg #[.int .i64 a1.Lo, .int .i64 a1.Hi, .bool a1.Unknown], .agg #[.int .i64 b2.Lo, .int .i64 b2.Hi, .bool b2.Unknown]] w (fun e w' => ∃ (g : FM), e = .returned (Value.agg #[.int .i64 r1.Lo, .int .i64 r1.Hi, .bool r1.Unknown]) ∧ FM.le f g ∧ St t w' g (H)) := by
  unfold bound_Sub_Light at h
  refine enter Try.func51 rfl (tm := #[.agg #[.int .i64 a1.Lo, .int .i64 a1.Hi, .bool a1.Unknown], .agg #[.int .i64 b2.Lo, .int .i64 b2.Hi, .bool b2.Unknown], undef, undef, undef, undef, undef, undef, undef]) (by kernel_rfl) ?_
  intro B hret hnor hnp
  refine wp_seq_k (fun K3 hK4 => ?_)
  refine wp_region_lit ?_
  refine seqK rfl (does_box (cs := #[.int .i64 a1.Lo, .int .i64 a1.Hi, .bool a1.Unknown]) rfl (by kernel_rfl : _ = Value.agg #[.int .i64 a1.Lo, .int .i64 a1.Hi, .bool a1.Unknown]) rfl HS ?_)
  intro b5 W6 HS7
  refine seqK rfl (does_box (cs := #[.int .i64 b2.Lo, .int .i64 b2.Hi, .bool b2.Unknown]) rfl (by kernel_rfl : _ = Value.agg #[.int .i64 b2.Lo, .int .i64 b2.Hi, .bool b2.Unknown]) rfl HS7 ?_)
  intro b9 W10 HS11
  refine seqK rfl (does_alloc (z := Value.agg #[.int .i64 0, .int .i64 0, .bool false]) (cs := #[.int .i64 0, .int .i64 0, .bool false]) rfl (by kernel_rfl) rfl HS11 ?_)
  intro b13 W14 HS15
  refine wpList_nil ?_
  refine hK4 _ _ ?_
  refine wp_seq_k (fun K17 hK18 => ?_)
  have HS19 := HS15.u2
  have HS20 := HS19.u2
  have HS21 := HS20.u2
  refine heldG (S := Sg t f ([(b9, .cells #[.int .i64 b2.Lo, .int .i64 b2.Hi, .bool b2.Unknown] 54 (0, 0))] :: [(b5, .cells #[.int .i64 a1.Lo, .int .i64 a1.Hi, .bool a1.Unknown] 54 (0, 0))] :: H) [(4, [(b13, .cells #[.int .i64 0, .int .i64 0, .bool false] 54 (0, 0))])]) (n := 5) (by kernel_rfl) rfl HS21 ?_
  intro W22 HS23
  refine takeGQ 0 [] rfl (by kernel_rfl) (by kernel_rfl) (by kernel_rfl) (by kernel_rfl) (by kernel_rfl) (by kernel_rfl) hnp (Sg.g1 (Sx.of [[(b13, .cells #[.int .i64 0, .int .i64 0, .bool false] 54 (0, 0))]] (FM.le.refl _) HS23) (fun _ => St.only [] HS23 (FM.le.refl _))) (fun w_ hw_ => by obtain ⟨g_, hl_, hS_⟩ := hw_.st; exact run_loadN (n := 3) rfl Try.underlying54 rfl (by kernel_rfl) (by kernel_rfl : _ = Value.pointer (some ⟨b5, 0, none⟩)) (cs := [.int .i64 a1.Lo, .int .i64 a1.Hi, .bool a1.Unknown]) rfl (hS_.u1.cells 0 3 _ rfl)) ?_
  refine takeGQ 1 [] rfl (by kernel_rfl) (by kernel_rfl) (by kernel_rfl) (by kernel_rfl) (by kernel_rfl) (by kernel_rfl) hnp (Sg.g1 (Sx.of [[(b13, .cells #[.int .i64 0, .int .i64 0, .bool false] 54 (0, 0))]] (FM.le.refl _) HS23) (fun _ => St.only [] HS23 (FM.le.refl _))) (fun w_ hw_ => by obtain ⟨g_, hl_, hS_⟩ := hw_.st; exact run_loadN (n := 3) rfl Try.underlying54 rfl (by kernel_rfl) (by kernel_rfl : _ = Value.pointer (some ⟨b9, 0, none⟩)) (cs := [.int .i64 b2.Lo, .int .i64 b2.Hi, .bool b2.Unknown]) rfl (hS_.cells 0 3 _ rfl)) ?_
  have hq_ := bind_some h; clear h; obtain ⟨vt24, hc25, h⟩ := hq_
  refine takeGE 2 (by kernel_rfl) rfl (by kernel_rfl) (does_call (f := 89) (args := #[.agg #[.int .i64 b2.Lo, .int .i64 b2.Hi, .bool b2.Unknown]]) (by kernel_rfl) (bound_Neg_Light.calls k b2 HS23 vt24 hc25) ?_)
  rintro _ W28 ⟨f26, rfl, L27, HS29⟩
  refine ⟨_, rfl, ?_⟩
  refine ⟨(Sg.g1 (Sx.of [[(b13, .cells #[.int .i64 0, .int .i64 0, .bool false] 54 (0, 0))]] L27 HS29) (fun _ => St.only [] HS29 L27)), ?_⟩
  have hq_ := bind_some h; clear h; obtain ⟨vt30, hc31, h⟩ := hq_
  refine takeGE 3 (by kernel_rfl) rfl (by kernel_rfl) (does_call (f := 88) (args := #[.agg #[.int .i64 a1.Lo, .int .i64 a1.Hi, .bool a1.Unknown], .agg #[.int .i64 vt24.Lo, .int .i64 vt24.Hi, .bool vt24.Unknown]]) (by kernel_rfl) (bound_Add_Light.calls k a1 vt24 HS29 vt30 hc31) ?_)
  rintro _ W34 ⟨f32, rfl, L33, HS35⟩
  refine ⟨_, rfl, ?_⟩
  refine ⟨(Sg.g1 (Sx.of [[(b13, .cells #[.int .i64 0, .int .i64 0, .bool false] 54 (0, 0))]] (L27.trans L33) HS35) (fun _ => St.only [] HS35 (L27.trans L33))), ?_⟩
  refine takeGE 4 (by kernel_rfl) rfl (by kernel_rfl) (does_store (n := 3) (vs := [.int .i64 vt30.Lo, .int .i64 vt30.Hi, .bool vt30.Unknown]) (cs' := #[.int .i64 vt30.Lo, .int .i64 vt30.Hi, .bool vt30.Unknown]) rfl (by kernel_rfl) (by kernel_rfl : _ = Value.pointer (some ⟨b13, 0, none⟩)) (by kernel_rfl : _ = Value.agg #[.int .i64 vt30.Lo, .int .i64 vt30.Hi, .bool vt30.Unknown]) rfl rfl (by intro u_ hu_; simp only [List.mem_cons, List.not_mem_nil, or_false] at hu_; rcases hu_ with rfl | rfl | rfl <;> rfl) HS35 (Nat.le_of_ble_eq_true rfl) (by kernel_rfl) ?_)
  intro W36 HS37
  refine ⟨(Sg.g1 (Sx.of [[(b13, .cells #[.int .i64 vt30.Lo, .int .i64 vt30.Hi, .bool vt30.Unknown] 54 (0, 0))]] (L27.trans L33) HS37) (fun hl_ => Bool.noConfusion (show true = false from hl_))), ?_⟩
  refine doneG (by kernel_rfl) ?_ _
  refine hK18 _ _ ?_
  refine wp_ret ?_
  refine hret _ _ ?_
  refine ends (v := Value.agg #[.int .i64 vt30.Lo, .int .i64 vt30.Hi, .bool vt30.Unknown]) (results1 (q1 := .cell 4 54) (by kernel_rfl) (resN (n := 3) (cs := [.int .i64 vt30.Lo, .int .i64 vt30.Hi, .bool vt30.Unknown]) (by kernel_rfl : _ = Value.pointer (some ⟨b13, 0, none⟩)) Try.underlying54 rfl (by kernel_rfl) rfl (HS37.cells 0 3 _ rfl))) (by kernel_rfl) ?_
  have HS38 := HS37.drop
  have HS39 := HS38.drop
  have HS40 := HS39.drop
  injection h with h
  subst h
  exact ⟨f32, rfl, (L27.trans L33), HS40⟩

end Go.Sp.C5
