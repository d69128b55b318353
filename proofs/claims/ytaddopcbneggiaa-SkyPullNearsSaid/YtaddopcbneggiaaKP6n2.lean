import Derived.Test.YtaddopcbneggiaaProg
import Derived.Test.YtaddopcbneggiaaSpThree
import Derived.Test.YtaddopcbneggiaaFP6
import Derived.Test.YtaddopcbneggiaaKP6n0
import Derived.Test.YtaddopcbneggiaaKP6n1
namespace Go.Sp.P6
open Go Go.Sp Go.Proofs
set_option linter.unusedVariables false
attribute [local irreducible] wpList AnyL Code.wp Calls Does
set_option maxRecDepth 100000 in
set_option maxHeartbeats 4000000 in
theorem num_Wide_Div.calls (k : Nat)  (vw1 : S_Wide) (d2 : Int) {t w : World} {f : FM} {H : List Seg} (HS : St t w f (H)) (r1 : Int) (r2 : Int) (h : num_Wide_Div k vw1 d2 = some (r1, r2)) :
    Calls Try.prog 46 #[.agg #[.int .i64 vw1.Hi, .int .u64 vw1.Lo], .int .i64 d2] w (fun e w' => ∃ (g : FM), e = .returned (Value.tuple #[.int .i64 r1, .int .i64 r2]) ∧ FM.le f g ∧ St t w' g (H)) := by
  unfold num_Wide_Div at h
  refine enter Try.func46 rfl (tm := #[.agg #[.int .i64 vw1.Hi, .int .u64 vw1.Lo], .int .i64 d2, undef, undef, undef, undef, undef, undef, undef, undef, undef, undef, undef, undef, undef, undef, undef, undef, undef, undef, undef, undef, undef, undef, undef, undef, undef, undef, undef, undef, undef, undef, undef, undef, undef, undef, undef, undef, undef, undef, undef, undef, undef, undef, undef, undef, undef, undef, undef, undef, undef, undef, undef, undef, undef, undef, undef, undef, undef, undef, undef]) (by kernel_rfl) ?_
  intro B hret hnor hnp
  refine wp_seq_k (fun K3 hK4 => ?_)
  refine wp_region_lit ?_
  refine seqK rfl (does_box (cs := #[.int .i64 vw1.Hi, .int .u64 vw1.Lo]) rfl (by kernel_rfl : _ = Value.agg #[.int .i64 vw1.Hi, .int .u64 vw1.Lo]) rfl HS ?_)
  intro b5 W6 HS7
  refine seqS2 (a' := ⟨#[.agg #[.int .i64 vw1.Hi, .int .u64 vw1.Lo], .int .i64 d2, .pointer (some ⟨b5, 0, none⟩), undef, .int .i64 0, .int .i64 0, undef, undef, undef, undef, undef, undef, undef, undef, undef, undef, undef, undef, undef, undef, undef, undef, undef, undef, undef, undef, undef, undef, undef, undef, undef, undef, undef, undef, undef, undef, undef, undef, undef, undef, undef, undef, undef, undef, undef, undef, undef, undef, undef, undef, undef, undef, undef, undef, undef, undef, undef, undef, undef, undef, undef], []⟩) (by kernel_rfl) ?_
  refine wpList_nil ?_
  refine hK4 _ _ ?_
  refine wp_seq_k (fun K9 hK10 => ?_)
  refine wp_seq_k (fun K11 hK12 => ?_)
  refine wp_region_lit ?_
  refine seqS2 (a' := ⟨#[.agg #[.int .i64 vw1.Hi, .int .u64 vw1.Lo], .int .i64 d2, .pointer (some ⟨b5, 0, none⟩), undef, .int .i64 0, .int .i64 0, undef, undef, undef, undef, .int .i64 d2, .bool (decide (d2 < 1)), undef, undef, undef, undef, undef, undef, undef, undef, undef, undef, undef, undef, undef, undef, undef, undef, undef, undef, undef, undef, undef, undef, undef, undef, undef, undef, undef, undef, undef, undef, undef, undef, undef, undef, undef, undef, undef, undef, undef, undef, undef, undef, undef, undef, undef, undef, undef, undef, undef], []⟩) (by kernel_rfl) ?_
  refine wpList_nil ?_
  refine hK12 _ _ ?_
  have hq_ := ite_some h; clear h; rcases hq_ with ⟨c14, h⟩ | ⟨c14, h⟩
  · have c14 : d2 < 1 := c14
    refine wpRwI 11 (x := (decide (d2 < 1))) (v := true) (by kernel_rfl) (decide_eq_true c14) ?_
    refine condT (by kernel_rfl) ?_
    refine wp_seq_k (fun K15 hK16 => ?_)
    refine wp_region_lit ?_
    refine seqS2 (a' := ⟨#[.agg #[.int .i64 vw1.Hi, .int .u64 vw1.Lo], .int .i64 d2, .pointer (some ⟨b5, 0, none⟩), undef, .int .i64 0, .int .i64 1, undef, undef, undef, undef, .int .i64 d2, .bool true, undef, undef, undef, undef, undef, undef, undef, undef, undef, undef, undef, undef, undef, undef, undef, undef, undef, undef, undef, undef, undef, undef, undef, undef, undef, undef, undef, undef, undef, undef, undef, undef, undef, undef, undef, undef, undef, undef, undef, undef, undef, undef, undef, undef, undef, undef, undef, undef, undef], []⟩) (by kernel_rfl) ?_
    refine wpList_nil ?_
    refine hK16 _ _ ?_
    refine wp_ret ?_
    refine hret _ _ ?_
    refine ends_still (v := Value.tuple #[.int .i64 0, .int .i64 1]) (by kernel_rfl) (by kernel_rfl) ?_
    have HS129 := HS7.drop
    injection h with h
    injection h with h0_ h
    subst h0_ h
    exact ⟨f, rfl, FM.le.refl _, HS129⟩
  · have c14 : ¬ (d2 < 1) := c14
    refine wpRwI 11 (x := (decide (d2 < 1))) (v := false) (by kernel_rfl) (decide_eq_false c14) ?_
    refine condF (by kernel_rfl) ?_
    refine wp_skip ?_
    refine hK10 _ _ ?_
    refine wp_seq_k (fun K17 hK18 => ?_)
    refine wp_region_lit ?_
    refine seqK rfl (does_run (run_loadN (n := 2) rfl Try.underlying95 rfl (by kernel_rfl) (by kernel_rfl : _ = Value.pointer (some ⟨b5, 0, none⟩)) (cs := [.int .i64 vw1.Hi, .int .u64 vw1.Lo]) rfl (HS7.cells 0 2 _ rfl)) ?_)
    refine seqK rfl (does_alloc (z := Value.agg #[.int .i64 0, .int .u64 0]) (cs := #[.int .i64 0, .int .u64 0]) rfl (by kernel_rfl) rfl HS7 ?_)
    intro b19 W20 HS21
    refine seqK rfl (does_store (n := 2) (vs := [.int .i64 vw1.Hi, .int .u64 vw1.Lo]) (cs' := #[.int .i64 vw1.Hi, .int .u64 vw1.Lo]) rfl (by kernel_rfl) (by kernel_rfl : _ = Value.pointer (some ⟨b19, 0, none⟩)) (by kernel_rfl : _ = Value.agg #[.int .i64 vw1.Hi, .int .u64 vw1.Lo]) rfl rfl (by intro u_ hu_; simp only [List.mem_cons, List.not_mem_nil, or_false] at hu_; rcases hu_ with rfl | rfl <;> rfl) HS21 (Nat.le_of_ble_eq_true rfl) (by kernel_rfl) ?_)
    intro W23 HS24
    refine wpList_nil ?_
    refine hK18 _ _ ?_
    refine wp_seq_k (fun K25 hK26 => ?_)
    refine wp_seq_k (fun K27 hK28 => ?_)
    refine wp_region_lit ?_
    refine seqL1 (by kernel_rfl) ?_
    refine seqK rfl (does_run (run_load rfl Try.underlying2 rfl (by kernel_rfl : _ = Value.pointer (some ⟨b5, 0, none⟩)) (HS24.u1.cell 0)) ?_)
    refine seqS1 (a' := ⟨#[.agg #[.int .i64 vw1.Hi, .int .u64 vw1.Lo], .int .i64 d2, .pointer (some ⟨b5, 0, none⟩), undef, .int .i64 0, .int .i64 0, .pointer (some ⟨b19, 0, none⟩), undef, undef, undef, .int .i64 d2, .bool false, .agg #[.int .i64 vw1.Hi, .int .u64 vw1.Lo], .pointer (some ⟨b5, 0, none⟩), .int .i64 vw1.Hi, .bool (decide (vw1.Hi < 0)), undef, undef, undef, undef, undef, undef, undef, undef, undef, undef, undef, undef, undef, undef, undef, undef, undef, undef, undef, undef, undef, undef, undef, undef, undef, undef, undef, undef, undef, undef, undef, undef, undef, undef, undef, undef, undef, undef, undef, undef, undef, undef, undef, undef, undef], []⟩) (by kernel_rfl) ?_
    refine wpList_nil ?_
    refine hK28 _ _ ?_
    have hq_ := bind_some h; clear h; obtain ⟨v29, hv46, h⟩ := hq_
    have J47 : ∀ (f39 : FM) (x44 : Int) (x45 : Int) (j43 : Nat → Value) (W41 : World) (a_ : Act), FM.le f f39 → some ((x44, x45)) = some v29 → St t W41 f39 ([(b19, .cells #[.int .i64 x44, .int .u64 x45] 95 (0, 0))] :: [(b5, .cells #[.int .i64 vw1.Hi, .int .u64 vw1.Lo] 95 (0, 0))] :: H) → a_ = ⟨#[.agg #[.int .i64 vw1.Hi, .int .u64 vw1.Lo], .int .i64 d2, .pointer (some ⟨b5, 0, none⟩), undef, .int .i64 0, .int .i64 0, .pointer (some ⟨b19, 0, none⟩), undef, undef, undef, .int .i64 d2, .bool false, .agg #[.int .i64 vw1.Hi, .int .u64 vw1.Lo], .pointer (some ⟨b5, 0, none⟩), .int .i64 vw1.Hi, (j43 0), (j43 1), (j43 2), undef, undef, undef, undef, undef, undef, undef, undef, undef, undef, undef, undef, undef, undef, undef, undef, undef, undef, undef, undef, undef, undef, undef, undef, undef, undef, undef, undef, undef, undef, undef, undef, undef, undef, undef, undef, undef, undef, undef, undef, undef, undef, undef], []⟩ → K25 a_ W41 := by
      intro f39 x44 x45 j43 W41 a_ L40 hj48 HS42  hfr_; subst hfr_
      injection hj48 with hj48; subst hj48; try dsimp only at h
      refine hK26 _ _ ?_
      refine wp_seq_k (fun K49 hK50 => ?_)
      refine wp_seq_k (fun K51 hK52 => ?_)
      refine wp_region_lit ?_
      refine seqL1 (by kernel_rfl) ?_
      refine seqK rfl (does_run (run_load rfl Try.underlying2 rfl (by kernel_rfl : _ = Value.pointer (some ⟨b19, 0, none⟩)) (HS42.cell 0)) ?_)
      refine seqS4 (a' := ⟨#[.agg #[.int .i64 vw1.Hi, .int .u64 vw1.Lo], .int .i64 d2, .pointer (some ⟨b5, 0, none⟩), undef, .int .i64 0, .int .i64 0, .pointer (some ⟨b19, 0, none⟩), undef, undef, undef, .int .i64 d2, .bool false, .agg #[.int .i64 vw1.Hi, .int .u64 vw1.Lo], .pointer (some ⟨b5, 0, none⟩), .int .i64 vw1.Hi, (j43 0), (j43 1), (j43 2), .pointer (some ⟨b19, 0, none⟩), .int .i64 x44, .int .u64 (u64 (x44)), .int .i64 d2, .int .u64 (u64 (d2)), .bool (decide ((u64 (x44)) ≥ (u64 (d2)))), undef, undef, undef, undef, undef, undef, undef, undef, undef, undef, undef, undef, undef, undef, undef, undef, undef, undef, undef, undef, undef, undef, undef, undef, undef, undef, undef, undef, undef, undef, undef, undef, undef, undef, undef, undef, undef], []⟩) (by kernel_rfl) ?_
      refine wpList_nil ?_
      refine hK52 _ _ ?_
      have hq_ := ite_some h; clear h; rcases hq_ with ⟨c54, h⟩ | ⟨c54, h⟩
      · have c54 : (u64 (x44)) ≥ (u64 (d2)) := c54
        refine wpRwI 23 (x := (decide ((u64 (x44)) ≥ (u64 (d2))))) (v := true) (by kernel_rfl) (decide_eq_true c54) ?_
        refine condT (by kernel_rfl) ?_
        refine wp_seq_k (fun K55 hK56 => ?_)
        refine wp_region_lit ?_
        refine seqS2 (a' := ⟨#[.agg #[.int .i64 vw1.Hi, .int .u64 vw1.Lo], .int .i64 d2, .pointer (some ⟨b5, 0, none⟩), undef, .int .i64 0, .int .i64 2, .pointer (some ⟨b19, 0, none⟩), undef, undef, undef, .int .i64 d2, .bool false, .agg #[.int .i64 vw1.Hi, .int .u64 vw1.Lo], .pointer (some ⟨b5, 0, none⟩), .int .i64 vw1.Hi, (j43 0), (j43 1), (j43 2), .pointer (some ⟨b19, 0, none⟩), .int .i64 x44, .int .u64 (u64 (x44)), .int .i64 d2, .int .u64 (u64 (d2)), .bool true, undef, undef, undef, undef, undef, undef, undef, undef, undef, undef, undef, undef, undef, undef, undef, undef, undef, undef, undef, undef, undef, undef, undef, undef, undef, undef, undef, undef, undef, undef, undef, undef, undef, undef, undef, undef, undef], []⟩) (by kernel_rfl) ?_
        refine wpList_nil ?_
        refine hK56 _ _ ?_
        refine wp_ret ?_
        refine hret _ _ ?_
        refine ends_still (v := Value.tuple #[.int .i64 0, .int .i64 2]) (by kernel_rfl) (by kernel_rfl) ?_
        have HS130 := HS42.drop
        have HS131 := HS130.drop
        injection h with h
        injection h with h0_ h
        subst h0_ h
        exact ⟨f39, rfl, L40, HS131⟩
      · have c54 : ¬ ((u64 (x44)) ≥ (u64 (d2))) := c54
        refine wpRwI 23 (x := (decide ((u64 (x44)) ≥ (u64 (d2))))) (v := false) (by kernel_rfl) (decide_eq_false c54) ?_
        refine condF (by kernel_rfl) ?_
        refine wp_skip ?_
        refine hK50 _ _ ?_
        refine wp_seq_k (fun K57 hK58 => ?_)
        refine wp_region_lit ?_
        refine seqL1 (by kernel_rfl) ?_
        refine seqK rfl (does_run (run_load rfl Try.underlying2 rfl (by kernel_rfl : _ = Value.pointer (some ⟨b19, 0, none⟩)) (HS42.cell 0)) ?_)
        refine seqL2 (by kernel_rfl) ?_
        refine seqK rfl (does_run (run_load rfl Try.underlying84 rfl (by kernel_rfl : _ = Value.pointer (some ⟨b19, 1, none⟩)) (HS42.cell 1)) ?_)
        have hq_ := bind_some h; clear h; obtain ⟨⟨vt59, vt60⟩, hc61, h⟩ := hq_
        refine seqL2 (by kernel_rfl) ?_
        refine seqK rfl (does_call (f := 57) (args := #[.int .u64 (u64 (x44)), .int .u64 x45, .int .u64 (u64 (d2))]) (by kernel_rfl) (bits_Div64.calls k (u64 (x44)) x45 (u64 (d2)) HS42 vt59 vt60 hc61) ?_)
        rintro _ W64 ⟨f62, rfl, L63, HS65⟩
        refine ⟨_, rfl, ?_⟩
        refine seqS5 (a' := ⟨#[.agg #[.int .i64 vw1.Hi, .int .u64 vw1.Lo], .int .i64 d2, .pointer (some ⟨b5, 0, none⟩), undef, .int .i64 0, .int .i64 0, .pointer (some ⟨b19, 0, none⟩), .int .u64 vt59, .int .u64 vt60, undef, .int .i64 d2, .bool false, .agg #[.int .i64 vw1.Hi, .int .u64 vw1.Lo], .pointer (some ⟨b5, 0, none⟩), .int .i64 vw1.Hi, (j43 0), (j43 1), (j43 2), .pointer (some ⟨b19, 0, none⟩), .int .i64 x44, .int .u64 (u64 (x44)), .int .i64 d2, .int .u64 (u64 (d2)), .bool false, .tuple #[.int .u64 vt59, .int .u64 vt60], .pointer (some ⟨b19, 0, none⟩), .int .i64 x44, .int .u64 (u64 (x44)), .pointer (some ⟨b19, 1, none⟩), .int .u64 x45, .int .i64 d2, .int .u64 (u64 (d2)), .tuple #[.int .u64 vt59, .int .u64 vt60], .int .u64 vt59, .int .u64 vt60, undef, undef, undef, undef, undef, undef, undef, undef, undef, undef, undef, undef, undef, undef, undef, undef, undef, undef, undef, undef, undef, undef, undef, undef, undef, undef], []⟩) (by kernel_rfl) ?_
        refine wpList_nil ?_
        refine hK58 _ _ ?_
        refine wp_seq_k (fun K66 hK67 => ?_)
        refine wp_region_lit ?_
        refine seqS1 (a' := ⟨#[.agg #[.int .i64 vw1.Hi, .int .u64 vw1.Lo], .int .i64 d2, .pointer (some ⟨b5, 0, none⟩), undef, .int .i64 0, .int .i64 0, .pointer (some ⟨b19, 0, none⟩), .int .u64 vt59, .int .u64 vt60, .int .u64 9223372036854775807, .int .i64 d2, .bool false, .agg #[.int .i64 vw1.Hi, .int .u64 vw1.Lo], .pointer (some ⟨b5, 0, none⟩), .int .i64 vw1.Hi, (j43 0), (j43 1), (j43 2), .pointer (some ⟨b19, 0, none⟩), .int .i64 x44, .int .u64 (u64 (x44)), .int .i64 d2, .int .u64 (u64 (d2)), .bool false, .tuple #[.int .u64 vt59, .int .u64 vt60], .pointer (some ⟨b19, 0, none⟩), .int .i64 x44, .int .u64 (u64 (x44)), .pointer (some ⟨b19, 1, none⟩), .int .u64 x45, .int .i64 d2, .int .u64 (u64 (d2)), .tuple #[.int .u64 vt59, .int .u64 vt60], .int .u64 vt59, .int .u64 vt60, undef, undef, undef, undef, undef, undef, undef, undef, undef, undef, undef, undef, undef, undef, undef, undef, undef, undef, undef, undef, undef, undef, undef, undef, undef, undef], []⟩) (by kernel_rfl) ?_
        refine wpList_nil ?_
        refine hK67 _ _ ?_
        refine wp_seq_k (fun K68 hK69 => ?_)
        refine wp_seq_k (fun K70 hK71 => ?_)
        refine wp_region_lit ?_
        refine seqL1 (by kernel_rfl) ?_
        refine seqK rfl (does_run (run_load rfl Try.underlying2 rfl (by kernel_rfl : _ = Value.pointer (some ⟨b5, 0, none⟩)) (HS65.u1.cell 0)) ?_)
        refine seqS1 (a' := ⟨#[.agg #[.int .i64 vw1.Hi, .int .u64 vw1.Lo], .int .i64 d2, .pointer (some ⟨b5, 0, none⟩), undef, .int .i64 0, .int .i64 0, .pointer (some ⟨b19, 0, none⟩), .int .u64 vt59, .int .u64 vt60, .int .u64 9223372036854775807, .int .i64 d2, .bool false, .agg #[.int .i64 vw1.Hi, .int .u64 vw1.Lo], .pointer (some ⟨b5, 0, none⟩), .int .i64 vw1.Hi, (j43 0), (j43 1), (j43 2), .pointer (some ⟨b19, 0, none⟩), .int .i64 x44, .int .u64 (u64 (x44)), .int .i64 d2, .int .u64 (u64 (d2)), .bool false, .tuple #[.int .u64 vt59, .int .u64 vt60], .pointer (some ⟨b19, 0, none⟩), .int .i64 x44, .int .u64 (u64 (x44)), .pointer (some ⟨b19, 1, none⟩), .int .u64 x45, .int .i64 d2, .int .u64 (u64 (d2)), .tuple #[.int .u64 vt59, .int .u64 vt60], .int .u64 vt59, .int .u64 vt60, .pointer (some ⟨b5, 0, none⟩), .int .i64 vw1.Hi, .bool (decide (vw1.Hi < 0)), undef, undef, undef, undef, undef, undef, undef, undef, undef, undef, undef, undef, undef, undef, undef, undef, undef, undef, undef, undef, undef, undef, undef], []⟩) (by kernel_rfl) ?_
        refine wpList_nil ?_
        refine hK71 _ _ ?_
        have hq_ := bind_some h; clear h; obtain ⟨v72, hv95, h⟩ := hq_
        have J96 : ∀ (f89 : FM) (most94 : Int) (j93 : Nat → Value) (W91 : World) (a_ : Act), FM.le f62 f89 → some (most94) = some v72 → St t W91 f89 ([(b19, .cells #[.int .i64 x44, .int .u64 x45] 95 (0, 0))] :: [(b5, .cells #[.int .i64 vw1.Hi, .int .u64 vw1.Lo] 95 (0, 0))] :: H) → a_ = ⟨#[.agg #[.int .i64 vw1.Hi, .int .u64 vw1.Lo], .int .i64 d2, .pointer (some ⟨b5, 0, none⟩), undef, .int .i64 0, .int .i64 0, .pointer (some ⟨b19, 0, none⟩), .int .u64 vt59, .int .u64 vt60, .int .u64 most94, .int .i64 d2, .bool false, .agg #[.int .i64 vw1.Hi, .int .u64 vw1.Lo], .pointer (some ⟨b5, 0, none⟩), .int .i64 vw1.Hi, (j43 0), (j43 1), (j43 2), .pointer (some ⟨b19, 0, none⟩), .int .i64 x44, .int .u64 (u64 (x44)), .int .i64 d2, .int .u64 (u64 (d2)), .bool false, .tuple #[.int .u64 vt59, .int .u64 vt60], .pointer (some ⟨b19, 0, none⟩), .int .i64 x44, .int .u64 (u64 (x44)), .pointer (some ⟨b19, 1, none⟩), .int .u64 x45, .int .i64 d2, .int .u64 (u64 (d2)), .tuple #[.int .u64 vt59, .int .u64 vt60], .int .u64 vt59, .int .u64 vt60, .pointer (some ⟨b5, 0, none⟩), .int .i64 vw1.Hi, (j93 0), (j93 1), (j93 2), (j93 3), (j93 4), undef, undef, undef, undef, undef, undef, undef, undef, undef, undef, undef, undef, undef, undef, undef, undef, undef, undef, undef], []⟩ → K68 a_ W91 := by
          intro f89 most94 j93 W91 a_ L90 hj97 HS92  hfr_; subst hfr_
          injection hj97 with hj97; subst hj97; try dsimp only at h
          refine hK69 _ _ ?_
          refine wp_seq_k (fun K98 hK99 => ?_)
          refine wp_seq_k (fun K100 hK101 => ?_)
          refine wp_region_lit ?_
          refine seqS3 (a' := ⟨#[.agg #[.int .i64 vw1.Hi, .int .u64 vw1.Lo], .int .i64 d2, .pointer (some ⟨b5, 0, none⟩), undef, .int .i64 0, .int .i64 0, .pointer (some ⟨b19, 0, none⟩), .int .u64 vt59, .int .u64 vt60, .int .u64 most94, .int .i64 d2, .bool false, .agg #[.int .i64 vw1.Hi, .int .u64 vw1.Lo], .pointer (some ⟨b5, 0, none⟩), .int .i64 vw1.Hi, (j43 0), (j43 1), (j43 2), .pointer (some ⟨b19, 0, none⟩), .int .i64 x44, .int .u64 (u64 (x44)), .int .i64 d2, .int .u64 (u64 (d2)), .bool false, .tuple #[.int .u64 vt59, .int .u64 vt60], .pointer (some ⟨b19, 0, none⟩), .int .i64 x44, .int .u64 (u64 (x44)), .pointer (some ⟨b19, 1, none⟩), .int .u64 x45, .int .i64 d2, .int .u64 (u64 (d2)), .tuple #[.int .u64 vt59, .int .u64 vt60], .int .u64 vt59, .int .u64 vt60, .pointer (some ⟨b5, 0, none⟩), .int .i64 vw1.Hi, (j93 0), (j93 1), (j93 2), (j93 3), (j93 4), .int .u64 vt59, .int .u64 most94, .bool (decide (vt59 > most94)), undef, undef, undef, undef, undef, undef, undef, undef, undef, undef, undef, undef, undef, undef, undef, undef], []⟩) (by kernel_rfl) ?_
          refine wpList_nil ?_
          refine hK101 _ _ ?_
          have hq_ := ite_some h; clear h; rcases hq_ with ⟨c103, h⟩ | ⟨c103, h⟩
          · have c103 : vt59 > most94 := c103
            refine wpRwI 44 (x := (decide (vt59 > most94))) (v := true) (by kernel_rfl) (decide_eq_true c103) ?_
            refine condT (by kernel_rfl) ?_
            refine wp_seq_k (fun K104 hK105 => ?_)
            refine wp_region_lit ?_
            refine seqS2 (a' := ⟨#[.agg #[.int .i64 vw1.Hi, .int .u64 vw1.Lo], .int .i64 d2, .pointer (some ⟨b5, 0, none⟩), undef, .int .i64 0, .int .i64 2, .pointer (some ⟨b19, 0, none⟩), .int .u64 vt59, .int .u64 vt60, .int .u64 most94, .int .i64 d2, .bool false, .agg #[.int .i64 vw1.Hi, .int .u64 vw1.Lo], .pointer (some ⟨b5, 0, none⟩), .int .i64 vw1.Hi, (j43 0), (j43 1), (j43 2), .pointer (some ⟨b19, 0, none⟩), .int .i64 x44, .int .u64 (u64 (x44)), .int .i64 d2, .int .u64 (u64 (d2)), .bool false, .tuple #[.int .u64 vt59, .int .u64 vt60], .pointer (some ⟨b19, 0, none⟩), .int .i64 x44, .int .u64 (u64 (x44)), .pointer (some ⟨b19, 1, none⟩), .int .u64 x45, .int .i64 d2, .int .u64 (u64 (d2)), .tuple #[.int .u64 vt59, .int .u64 vt60], .int .u64 vt59, .int .u64 vt60, .pointer (some ⟨b5, 0, none⟩), .int .i64 vw1.Hi, (j93 0), (j93 1), (j93 2), (j93 3), (j93 4), .int .u64 vt59, .int .u64 most94, .bool true, undef, undef, undef, undef, undef, undef, undef, undef, undef, undef, undef, undef, undef, undef, undef, undef], []⟩) (by kernel_rfl) ?_
            refine wpList_nil ?_
            refine hK105 _ _ ?_
            refine wp_ret ?_
            refine hret _ _ ?_
            refine ends_still (v := Value.tuple #[.int .i64 0, .int .i64 2]) (by kernel_rfl) (by kernel_rfl) ?_
            have HS132 := HS92.drop
            have HS133 := HS132.drop
            injection h with h
            injection h with h0_ h
            subst h0_ h
            exact ⟨f89, rfl, (L40.trans (L63.trans L90)), HS133⟩
          · have c103 : ¬ (vt59 > most94) := c103
            refine wpRwI 44 (x := (decide (vt59 > most94))) (v := false) (by kernel_rfl) (decide_eq_false c103) ?_
            refine condF (by kernel_rfl) ?_
            refine wp_skip ?_
            refine hK99 _ _ ?_
            refine wp_seq_k (fun K106 hK107 => ?_)
            refine blockK (fun B108 hx109 hn110 hr111 ho112 hp113 => ?_)
            refine wp_seq_k (fun K115 hK116 => ?_)
            refine wp_region_lit ?_
            refine seqL1 (by kernel_rfl) ?_
            refine seqK rfl (does_run (run_load rfl Try.underlying2 rfl (by kernel_rfl : _ = Value.pointer (some ⟨b5, 0, none⟩)) (HS92.u1.cell 0)) ?_)
            refine seqS2 (a' := ⟨#[.agg #[.int .i64 vw1.Hi, .int .u64 vw1.Lo], .int .i64 d2, .pointer (some ⟨b5, 0, none⟩), undef, .int .i64 0, .int .i64 0, .pointer (some ⟨b19, 0, none⟩), .int .u64 vt59, .int .u64 vt60, .int .u64 most94, .int .i64 d2, .bool false, .agg #[.int .i64 vw1.Hi, .int .u64 vw1.Lo], .pointer (some ⟨b5, 0, none⟩), .int .i64 vw1.Hi, (j43 0), (j43 1), (j43 2), .pointer (some ⟨b19, 0, none⟩), .int .i64 x44, .int .u64 (u64 (x44)), .int .i64 d2, .int .u64 (u64 (d2)), .bool false, .tuple #[.int .u64 vt59, .int .u64 vt60], .pointer (some ⟨b19, 0, none⟩), .int .i64 x44, .int .u64 (u64 (x44)), .pointer (some ⟨b19, 1, none⟩), .int .u64 x45, .int .i64 d2, .int .u64 (u64 (d2)), .tuple #[.int .u64 vt59, .int .u64 vt60], .int .u64 vt59, .int .u64 vt60, .pointer (some ⟨b5, 0, none⟩), .int .i64 vw1.Hi, (j93 0), (j93 1), (j93 2), (j93 3), (j93 4), .int .u64 vt59, .int .u64 most94, .bool false, .bool (decide (vw1.Hi ≥ 0)), .pointer (some ⟨b5, 0, none⟩), .int .i64 vw1.Hi, .bool (decide (vw1.Hi ≥ 0)), undef, undef, undef, undef, undef, undef, undef, undef, undef, undef, undef, undef], []⟩) (by kernel_rfl) ?_
            refine wpList_nil ?_
            refine hK116 _ _ ?_
            have hq_ := ite_some h; clear h; rcases hq_ with ⟨c118, h⟩ | ⟨c118, h⟩
            · have c118 : vw1.Hi ≥ 0 := c118
              refine wpRwI 45 (x := (decide (vw1.Hi ≥ 0))) (v := true) (by kernel_rfl) (decide_eq_true c118) ?_
              refine wpRwI 48 (x := (decide (vw1.Hi ≥ 0))) (v := true) (by kernel_rfl) (decide_eq_true c118) ?_
              refine condT (by kernel_rfl) ?_
              refine wp_seq_k (fun K119 hK120 => ?_)
              refine wp_region_lit ?_
              refine seqS4 (a' := ⟨#[.agg #[.int .i64 vw1.Hi, .int .u64 vw1.Lo], .int .i64 d2, .pointer (some ⟨b5, 0, none⟩), undef, .int .i64 (w64 (vt59)), .int .i64 0, .pointer (some ⟨b19, 0, none⟩), .int .u64 vt59, .int .u64 vt60, .int .u64 most94, .int .i64 d2, .bool false, .agg #[.int .i64 vw1.Hi, .int .u64 vw1.Lo], .pointer (some ⟨b5, 0, none⟩), .int .i64 vw1.Hi, (j43 0), (j43 1), (j43 2), .pointer (some ⟨b19, 0, none⟩), .int .i64 x44, .int .u64 (u64 (x44)), .int .i64 d2, .int .u64 (u64 (d2)), .bool false, .tuple #[.int .u64 vt59, .int .u64 vt60], .pointer (some ⟨b19, 0, none⟩), .int .i64 x44, .int .u64 (u64 (x44)), .pointer (some ⟨b19, 1, none⟩), .int .u64 x45, .int .i64 d2, .int .u64 (u64 (d2)), .tuple #[.int .u64 vt59, .int .u64 vt60], .int .u64 vt59, .int .u64 vt60, .pointer (some ⟨b5, 0, none⟩), .int .i64 vw1.Hi, (j93 0), (j93 1), (j93 2), (j93 3), (j93 4), .int .u64 vt59, .int .u64 most94, .bool false, .bool true, .pointer (some ⟨b5, 0, none⟩), .int .i64 vw1.Hi, .bool true, .int .u64 vt59, .int .i64 (w64 (vt59)), undef, undef, undef, undef, undef, undef, undef, undef, undef, undef], []⟩) (by kernel_rfl) ?_
              refine wpList_nil ?_
              refine hK120 _ _ ?_
              refine wp_ret ?_
              refine hr111 _ _ ?_
              refine hret _ _ ?_
              refine ends_still (v := Value.tuple #[.int .i64 (w64 (vt59)), .int .i64 0]) (by kernel_rfl) (by kernel_rfl) ?_
              have HS134 := HS92.drop
              have HS135 := HS134.drop
              injection h with h
              injection h with h0_ h
              subst h0_ h
              exact ⟨f89, rfl, (L40.trans (L63.trans L90)), HS135⟩
            · have c118 : ¬ (vw1.Hi ≥ 0) := c118
              refine wpRwI 45 (x := (decide (vw1.Hi ≥ 0))) (v := false) (by kernel_rfl) (decide_eq_false c118) ?_
              refine wpRwI 48 (x := (decide (vw1.Hi ≥ 0))) (v := false) (by kernel_rfl) (decide_eq_false c118) ?_
              refine condF (by kernel_rfl) ?_
              refine wp_seq_k (fun K121 hK122 => ?_)
              refine wp_region_lit ?_
              refine seqS3 (a' := ⟨#[.agg #[.int .i64 vw1.Hi, .int .u64 vw1.Lo], .int .i64 d2, .pointer (some ⟨b5, 0, none⟩), undef, .int .i64 0, .int .i64 0, .pointer (some ⟨b19, 0, none⟩), .int .u64 vt59, .int .u64 vt60, .int .u64 most94, .int .i64 d2, .bool false, .agg #[.int .i64 vw1.Hi, .int .u64 vw1.Lo], .pointer (some ⟨b5, 0, none⟩), .int .i64 vw1.Hi, (j43 0), (j43 1), (j43 2), .pointer (some ⟨b19, 0, none⟩), .int .i64 x44, .int .u64 (u64 (x44)), .int .i64 d2, .int .u64 (u64 (d2)), .bool false, .tuple #[.int .u64 vt59, .int .u64 vt60], .pointer (some ⟨b19, 0, none⟩), .int .i64 x44, .int .u64 (u64 (x44)), .pointer (some ⟨b19, 1, none⟩), .int .u64 x45, .int .i64 d2, .int .u64 (u64 (d2)), .tuple #[.int .u64 vt59, .int .u64 vt60], .int .u64 vt59, .int .u64 vt60, .pointer (some ⟨b5, 0, none⟩), .int .i64 vw1.Hi, (j93 0), (j93 1), (j93 2), (j93 3), (j93 4), .int .u64 vt59, .int .u64 most94, .bool false, .bool false, .pointer (some ⟨b5, 0, none⟩), .int .i64 vw1.Hi, .bool false, undef, undef, .bool (decide (vt60 > 0)), .int .u64 vt60, .bool (decide (vt60 > 0)), undef, undef, undef, undef, undef, undef, undef], []⟩) (by kernel_rfl) ?_
              refine wpList_nil ?_
              refine hK122 _ _ ?_
              have hq_ := ite_some h; clear h; rcases hq_ with ⟨c124, h⟩ | ⟨c124, h⟩
              · have c124 : vt60 > 0 := c124
                refine wpRwI 51 (x := (decide (vt60 > 0))) (v := true) (by kernel_rfl) (decide_eq_true c124) ?_
                refine wpRwI 53 (x := (decide (vt60 > 0))) (v := true) (by kernel_rfl) (decide_eq_true c124) ?_
                refine condT (by kernel_rfl) ?_
                refine wp_seq_k (fun K125 hK126 => ?_)
                refine wp_region_lit ?_
                refine seqS6 (a' := ⟨#[.agg #[.int .i64 vw1.Hi, .int .u64 vw1.Lo], .int .i64 d2, .pointer (some ⟨b5, 0, none⟩), undef, .int .i64 (w64 ((w64 (u64 (0 - vt59))) - 1)), .int .i64 0, .pointer (some ⟨b19, 0, none⟩), .int .u64 vt59, .int .u64 vt60, .int .u64 most94, .int .i64 d2, .bool false, .agg #[.int .i64 vw1.Hi, .int .u64 vw1.Lo], .pointer (some ⟨b5, 0, none⟩), .int .i64 vw1.Hi, (j43 0), (j43 1), (j43 2), .pointer (some ⟨b19, 0, none⟩), .int .i64 x44, .int .u64 (u64 (x44)), .int .i64 d2, .int .u64 (u64 (d2)), .bool false, .tuple #[.int .u64 vt59, .int .u64 vt60], .pointer (some ⟨b19, 0, none⟩), .int .i64 x44, .int .u64 (u64 (x44)), .pointer (some ⟨b19, 1, none⟩), .int .u64 x45, .int .i64 d2, .int .u64 (u64 (d2)), .tuple #[.int .u64 vt59, .int .u64 vt60], .int .u64 vt59, .int .u64 vt60, .pointer (some ⟨b5, 0, none⟩), .int .i64 vw1.Hi, (j93 0), (j93 1), (j93 2), (j93 3), (j93 4), .int .u64 vt59, .int .u64 most94, .bool false, .bool false, .pointer (some ⟨b5, 0, none⟩), .int .i64 vw1.Hi, .bool false, undef, undef, .bool true, .int .u64 vt60, .bool true, .int .u64 vt59, .int .u64 (u64 (0 - vt59)), .int .i64 (w64 (u64 (0 - vt59))), .int .i64 (w64 ((w64 (u64 (0 - vt59))) - 1)), undef, undef, undef], []⟩) (by kernel_rfl) ?_
                refine wpList_nil ?_
                refine hK126 _ _ ?_
                refine wp_ret ?_
                refine hr111 _ _ ?_
                refine hret _ _ ?_
                refine ends_still (v := Value.tuple #[.int .i64 (w64 ((w64 (u64 (0 - vt59))) - 1)), .int .i64 0]) (by kernel_rfl) (by kernel_rfl) ?_
                have HS136 := HS92.drop
                have HS137 := HS136.drop
                injection h with h
                injection h with h0_ h
                subst h0_ h
                exact ⟨f89, rfl, (L40.trans (L63.trans L90)), HS137⟩
              · have c124 : ¬ (vt60 > 0) := c124
                refine wpRwI 51 (x := (decide (vt60 > 0))) (v := false) (by kernel_rfl) (decide_eq_false c124) ?_
                refine wpRwI 53 (x := (decide (vt60 > 0))) (v := false) (by kernel_rfl) (decide_eq_false c124) ?_
                refine condF (by kernel_rfl) ?_
                refine wp_skip ?_
                refine hn110 _ _ ?_
                refine hK107 _ _ ?_
                refine wp_seq_k (fun K127 hK128 => ?_)
                refine wp_region_lit ?_
                refine seqS5 (a' := ⟨#[.agg #[.int .i64 vw1.Hi, .int .u64 vw1.Lo], .int .i64 d2, .pointer (some ⟨b5, 0, none⟩), undef, .int .i64 (w64 (u64 (0 - vt59))), .int .i64 0, .pointer (some ⟨b19, 0, none⟩), .int .u64 vt59, .int .u64 vt60, .int .u64 most94, .int .i64 d2, .bool false, .agg #[.int .i64 vw1.Hi, .int .u64 vw1.Lo], .pointer (some ⟨b5, 0, none⟩), .int .i64 vw1.Hi, (j43 0), (j43 1), (j43 2), .pointer (some ⟨b19, 0, none⟩), .int .i64 x44, .int .u64 (u64 (x44)), .int .i64 d2, .int .u64 (u64 (d2)), .bool false, .tuple #[.int .u64 vt59, .int .u64 vt60], .pointer (some ⟨b19, 0, none⟩), .int .i64 x44, .int .u64 (u64 (x44)), .pointer (some ⟨b19, 1, none⟩), .int .u64 x45, .int .i64 d2, .int .u64 (u64 (d2)), .tuple #[.int .u64 vt59, .int .u64 vt60], .int .u64 vt59, .int .u64 vt60, .pointer (some ⟨b5, 0, none⟩), .int .i64 vw1.Hi, (j93 0), (j93 1), (j93 2), (j93 3), (j93 4), .int .u64 vt59, .int .u64 most94, .bool false, .bool false, .pointer (some ⟨b5, 0, none⟩), .int .i64 vw1.Hi, .bool false, undef, undef, .bool false, .int .u64 vt60, .bool false, undef, undef, undef, undef, .int .u64 vt59, .int .u64 (u64 (0 - vt59)), .int .i64 (w64 (u64 (0 - vt59)))], []⟩) (by kernel_rfl) ?_
                refine wpList_nil ?_
                refine hK128 _ _ ?_
                refine wp_ret ?_
                refine hret _ _ ?_
                refine ends_still (v := Value.tuple #[.int .i64 (w64 (u64 (0 - vt59))), .int .i64 0]) (by kernel_rfl) (by kernel_rfl) ?_
                have HS138 := HS92.drop
                have HS139 := HS138.drop
                injection h with h
                injection h with h0_ h
                subst h0_ h
                exact ⟨f89, rfl, (L40.trans (L63.trans L90)), HS139⟩
        clear h; have h := hv95; clear hv95
        have hq_ := ite_some h; clear h; rcases hq_ with ⟨c73, h⟩ | ⟨c73, h⟩
        · have c73 : vw1.Hi < 0 := c73
          refine wpRwI 37 (x := (decide (vw1.Hi < 0))) (v := true) (by kernel_rfl) (decide_eq_true c73) ?_
          refine condT (by kernel_rfl) ?_
          refine wp_seq_k (fun K74 hK75 => ?_)
          refine wp_region_lit ?_
          refine seqS1 (a' := ⟨#[.agg #[.int .i64 vw1.Hi, .int .u64 vw1.Lo], .int .i64 d2, .pointer (some ⟨b5, 0, none⟩), undef, .int .i64 0, .int .i64 0, .pointer (some ⟨b19, 0, none⟩), .int .u64 vt59, .int .u64 vt60, .int .u64 9223372036854775808, .int .i64 d2, .bool false, .agg #[.int .i64 vw1.Hi, .int .u64 vw1.Lo], .pointer (some ⟨b5, 0, none⟩), .int .i64 vw1.Hi, (j43 0), (j43 1), (j43 2), .pointer (some ⟨b19, 0, none⟩), .int .i64 x44, .int .u64 (u64 (x44)), .int .i64 d2, .int .u64 (u64 (d2)), .bool false, .tuple #[.int .u64 vt59, .int .u64 vt60], .pointer (some ⟨b19, 0, none⟩), .int .i64 x44, .int .u64 (u64 (x44)), .pointer (some ⟨b19, 1, none⟩), .int .u64 x45, .int .i64 d2, .int .u64 (u64 (d2)), .tuple #[.int .u64 vt59, .int .u64 vt60], .int .u64 vt59, .int .u64 vt60, .pointer (some ⟨b5, 0, none⟩), .int .i64 vw1.Hi, .bool true, undef, undef, undef, undef, undef, undef, undef, undef, undef, undef, undef, undef, undef, undef, undef, undef, undef, undef, undef, undef, undef, undef, undef], []⟩) (by kernel_rfl) ?_
          refine wpList_nil ?_
          refine hK75 _ _ ?_
          refine wp_seq_k (fun K76 hK77 => ?_)
          refine wp_region_lit ?_
          refine seqS2 (a' := ⟨#[.agg #[.int .i64 vw1.Hi, .int .u64 vw1.Lo], .int .i64 d2, .pointer (some ⟨b5, 0, none⟩), undef, .int .i64 0, .int .i64 0, .pointer (some ⟨b19, 0, none⟩), .int .u64 vt59, .int .u64 vt60, .int .u64 9223372036854775808, .int .i64 d2, .bool false, .agg #[.int .i64 vw1.Hi, .int .u64 vw1.Lo], .pointer (some ⟨b5, 0, none⟩), .int .i64 vw1.Hi, (j43 0), (j43 1), (j43 2), .pointer (some ⟨b19, 0, none⟩), .int .i64 x44, .int .u64 (u64 (x44)), .int .i64 d2, .int .u64 (u64 (d2)), .bool false, .tuple #[.int .u64 vt59, .int .u64 vt60], .pointer (some ⟨b19, 0, none⟩), .int .i64 x44, .int .u64 (u64 (x44)), .pointer (some ⟨b19, 1, none⟩), .int .u64 x45, .int .i64 d2, .int .u64 (u64 (d2)), .tuple #[.int .u64 vt59, .int .u64 vt60], .int .u64 vt59, .int .u64 vt60, .pointer (some ⟨b5, 0, none⟩), .int .i64 vw1.Hi, .bool true, .int .u64 vt60, .bool (decide (vt60 > 0)), undef, undef, undef, undef, undef, undef, undef, undef, undef, undef, undef, undef, undef, undef, undef, undef, undef, undef, undef, undef, undef], []⟩) (by kernel_rfl) ?_
          refine wpList_nil ?_
          refine hK77 _ _ ?_
          have hq_ := bind_some h; clear h; obtain ⟨v78, hv86, h⟩ := hq_
          have J87 : ∀ (f80 : FM) (most85 : Int) (j84 : Nat → Value) (W82 : World) (a_ : Act), FM.le f62 f80 → some (most85) = some v78 → St t W82 f80 ([(b19, .cells #[.int .i64 x44, .int .u64 x45] 95 (0, 0))] :: [(b5, .cells #[.int .i64 vw1.Hi, .int .u64 vw1.Lo] 95 (0, 0))] :: H) → a_ = ⟨#[.agg #[.int .i64 vw1.Hi, .int .u64 vw1.Lo], .int .i64 d2, .pointer (some ⟨b5, 0, none⟩), undef, .int .i64 0, .int .i64 0, .pointer (some ⟨b19, 0, none⟩), .int .u64 vt59, .int .u64 vt60, .int .u64 most85, .int .i64 d2, .bool false, .agg #[.int .i64 vw1.Hi, .int .u64 vw1.Lo], .pointer (some ⟨b5, 0, none⟩), .int .i64 vw1.Hi, (j43 0), (j43 1), (j43 2), .pointer (some ⟨b19, 0, none⟩), .int .i64 x44, .int .u64 (u64 (x44)), .int .i64 d2, .int .u64 (u64 (d2)), .bool false, .tuple #[.int .u64 vt59, .int .u64 vt60], .pointer (some ⟨b19, 0, none⟩), .int .i64 x44, .int .u64 (u64 (x44)), .pointer (some ⟨b19, 1, none⟩), .int .u64 x45, .int .i64 d2, .int .u64 (u64 (d2)), .tuple #[.int .u64 vt59, .int .u64 vt60], .int .u64 vt59, .int .u64 vt60, .pointer (some ⟨b5, 0, none⟩), .int .i64 vw1.Hi, .bool true, .int .u64 vt60, (j84 0), (j84 1), (j84 2), undef, undef, undef, undef, undef, undef, undef, undef, undef, undef, undef, undef, undef, undef, undef, undef, undef, undef, undef], []⟩ → K68 a_ W82 := by
            intro f80 most85 j84 W82 a_ L81 hj88 HS83  hfr_; subst hfr_
            injection hj88 with hj88; subst hj88; try dsimp only at h
            exact J96 f80 most85 (fun i_ => [Value.bool true, Value.int .u64 vt60, (j84 0), (j84 1), (j84 2)].getD i_ undef) W82 _ L81 h HS83 (by kernel_rfl)
          clear h; have h := hv86; clear hv86
          have hq_ := ite_some h; clear h; rcases hq_ with ⟨c79, h⟩ | ⟨c79, h⟩
          · have c79 : vt60 > 0 := c79
            refine wpRwI 39 (x := (decide (vt60 > 0))) (v := true) (by kernel_rfl) (decide_eq_true c79) ?_
            refine condT (by kernel_rfl) ?_
            refine wp_region_lit ?_
            refine seqS3 (a' := ⟨#[.agg #[.int .i64 vw1.Hi, .int .u64 vw1.Lo], .int .i64 d2, .pointer (some ⟨b5, 0, none⟩), undef, .int .i64 0, .int .i64 0, .pointer (some ⟨b19, 0, none⟩), .int .u64 vt59, .int .u64 vt60, .int .u64 (u64 (9223372036854775808 - 1)), .int .i64 d2, .bool false, .agg #[.int .i64 vw1.Hi, .int .u64 vw1.Lo], .pointer (some ⟨b5, 0, none⟩), .int .i64 vw1.Hi, (j43 0), (j43 1), (j43 2), .pointer (some ⟨b19, 0, none⟩), .int .i64 x44, .int .u64 (u64 (x44)), .int .i64 d2, .int .u64 (u64 (d2)), .bool false, .tuple #[.int .u64 vt59, .int .u64 vt60], .pointer (some ⟨b19, 0, none⟩), .int .i64 x44, .int .u64 (u64 (x44)), .pointer (some ⟨b19, 1, none⟩), .int .u64 x45, .int .i64 d2, .int .u64 (u64 (d2)), .tuple #[.int .u64 vt59, .int .u64 vt60], .int .u64 vt59, .int .u64 vt60, .pointer (some ⟨b5, 0, none⟩), .int .i64 vw1.Hi, .bool true, .int .u64 vt60, .bool true, .int .u64 9223372036854775808, .int .u64 (u64 (9223372036854775808 - 1)), undef, undef, undef, undef, undef, undef, undef, undef, undef, undef, undef, undef, undef, undef, undef, undef, undef, undef, undef], []⟩) (by kernel_rfl) ?_
            refine wpList_nil ?_
            exact J87 f62 (u64 (9223372036854775808 - 1)) (fun i_ => [Value.bool true, Value.int .u64 9223372036854775808, Value.int .u64 (u64 (9223372036854775808 - 1))].getD i_ undef) W64 _ (FM.le.refl _) h HS65 (by kernel_rfl)
          · have c79 : ¬ (vt60 > 0) := c79
            refine wpRwI 39 (x := (decide (vt60 > 0))) (v := false) (by kernel_rfl) (decide_eq_false c79) ?_
            refine condF (by kernel_rfl) ?_
            refine wp_skip ?_
            exact J87 f62 9223372036854775808 (fun i_ => [Value.bool false, undef, undef].getD i_ undef) W64 _ (FM.le.refl _) h HS65 (by kernel_rfl)
        · have c73 : ¬ (vw1.Hi < 0) := c73
          refine wpRwI 37 (x := (decide (vw1.Hi < 0))) (v := false) (by kernel_rfl) (decide_eq_false c73) ?_
          refine condF (by kernel_rfl) ?_
          refine wp_skip ?_
          exact J96 f62 9223372036854775807 (fun i_ => [Value.bool false, undef, undef, undef, undef].getD i_ undef) W64 _ (FM.le.refl _) h HS65 (by kernel_rfl)
    clear h; have h := hv46; clear hv46
    have hq_ := ite_some h; clear h; rcases hq_ with ⟨c30, h⟩ | ⟨c30, h⟩
    · have c30 : vw1.Hi < 0 := c30
      refine wpRwI 15 (x := (decide (vw1.Hi < 0))) (v := true) (by kernel_rfl) (decide_eq_true c30) ?_
      refine condT (by kernel_rfl) ?_
      refine wp_region_lit ?_
      refine seqK rfl (does_run (run_loadN (n := 2) rfl Try.underlying95 rfl (by kernel_rfl) (by kernel_rfl : _ = Value.pointer (some ⟨b5, 0, none⟩)) (cs := [.int .i64 vw1.Hi, .int .u64 vw1.Lo]) rfl (HS24.u1.cells 0 2 _ rfl)) ?_)
      have hq_ := bind_some h; clear h; obtain ⟨vt31, hc32, h⟩ := hq_
      refine seqK rfl (does_call (f := 56) (args := #[.agg #[.int .i64 vw1.Hi, .int .u64 vw1.Lo]]) (by kernel_rfl) (num_Wide_Neg.calls k vw1 HS24 vt31 hc32) ?_)
      rintro _ W35 ⟨f33, rfl, L34, HS36⟩
      refine ⟨_, rfl, ?_⟩
      refine seqK rfl (does_store (n := 2) (vs := [.int .i64 vt31.Hi, .int .u64 vt31.Lo]) (cs' := #[.int .i64 vt31.Hi, .int .u64 vt31.Lo]) rfl (by kernel_rfl) (by kernel_rfl : _ = Value.pointer (some ⟨b19, 0, none⟩)) (by kernel_rfl : _ = Value.agg #[.int .i64 vt31.Hi, .int .u64 vt31.Lo]) rfl rfl (by intro u_ hu_; simp only [List.mem_cons, List.not_mem_nil, or_false] at hu_; rcases hu_ with rfl | rfl <;> rfl) HS36 (Nat.le_of_ble_eq_true rfl) (by kernel_rfl) ?_)
      intro W37 HS38
      refine wpList_nil ?_
      exact J47 f33 vt31.Hi vt31.Lo (fun i_ => [Value.bool true, Value.agg #[.int .i64 vw1.Hi, .int .u64 vw1.Lo], Value.agg #[.int .i64 vt31.Hi, .int .u64 vt31.Lo]].getD i_ undef) W37 _ L34 h HS38 (by kernel_rfl)
    · have c30 : ¬ (vw1.Hi < 0) := c30
      refine wpRwI 15 (x := (decide (vw1.Hi < 0))) (v := false) (by kernel_rfl) (decide_eq_false c30) ?_
      refine condF (by kernel_rfl) ?_
      refine wp_skip ?_
      exact J47 f vw1.Hi vw1.Lo (fun i_ => [Value.bool false, undef, undef].getD i_ undef) W23 _ (FM.le.refl _) h HS24 (by kernel_rfl)

set_option maxRecDepth 100000 in
set_option maxHeartbeats 4000000 in
theorem num_MulDiv.calls (k : Nat)  (a1 : Int) (b2 : Int) (c3 : Int) {t w : World} {f : FM} {H : List Seg} (HS : St t w f (H)) (r1 : Int) (r2 : Int) (h : num_MulDiv k a1 b2 c3 = some (r1, r2)) :
    Calls Try.prog 29 #[.int .i64 a1, .int .i64 b2, .int .i64 c3] w (fun e w' => ∃ (g : FM), e = .returned (Value.tuple #[.int .i64 r1, .int .i64 r2]) ∧ FM.le f g ∧ St t w' g (H)) := by
  unfold num_MulDiv at h
  refine enter Try.func29 rfl (tm := #[.int .i64 a1, .int .i64 b2, .int .i64 c3, undef, undef, undef, undef, undef, undef, undef, undef, undef, undef, undef, undef]) (by kernel_rfl) ?_
  intro B hret hnor hnp
  refine wp_seq_k (fun K4 hK5 => ?_)
  refine wp_region_lit ?_
  refine seqS2 (a' := ⟨#[.int .i64 a1, .int .i64 b2, .int .i64 c3, undef, undef, undef, .int .i64 0, .int .i64 0, undef, undef, undef, undef, undef, undef, undef], []⟩) (by kernel_rfl) ?_
  refine wpList_nil ?_
  refine hK5 _ _ ?_
  refine wp_seq_k (fun K6 hK7 => ?_)
  refine wp_region_lit ?_
  have hq_ := bind_some h; clear h; obtain ⟨vt8, hc9, h⟩ := hq_
  refine seqL2 (by kernel_rfl) ?_
  refine seqK rfl (does_call (f := 45) (args := #[.int .i64 a1, .int .i64 b2]) (by kernel_rfl) (num_Product.calls k a1 b2 HS vt8 hc9) ?_)
  rintro _ W12 ⟨f10, rfl, L11, HS13⟩
  refine ⟨_, rfl, ?_⟩
  have hq_ := bind_some h; clear h; obtain ⟨⟨vt14, vt15⟩, hc16, h⟩ := hq_
  refine seqL1 (by kernel_rfl) ?_
  refine seqK rfl (does_call (f := 46) (args := #[.agg #[.int .i64 vt8.Hi, .int .u64 vt8.Lo], .int .i64 c3]) (by kernel_rfl) (num_Wide_Div.calls k vt8 c3 HS13 vt14 vt15 hc16) ?_)
  rintro _ W19 ⟨f17, rfl, L18, HS20⟩
  refine ⟨_, rfl, ?_⟩
  refine seqS4 (a' := ⟨#[.int .i64 a1, .int .i64 b2, .int .i64 c3, undef, undef, undef, .int .i64 vt14, .int .i64 vt15, .int .i64 a1, .int .i64 b2, .agg #[.int .i64 vt8.Hi, .int .u64 vt8.Lo], .int .i64 c3, .tuple #[.int .i64 vt14, .int .i64 vt15], .int .i64 vt14, .int .i64 vt15], []⟩) (by kernel_rfl) ?_
  refine wpList_nil ?_
  refine hK7 _ _ ?_
  refine wp_ret ?_
  refine hret _ _ ?_
  refine ends_still (v := Value.tuple #[.int .i64 vt14, .int .i64 vt15]) (by kernel_rfl) (by kernel_rfl) ?_
  injection h with h
  injection h with h0_ h
  subst h0_ h
  exact ⟨f17, rfl, (L11.trans L18), HS20⟩

set_option maxRecDepth 100000 in
set_option maxHeartbeats 4000000 in
theorem sky_Pull_1.calls (k : Nat) (b1 : Nat) (v3 : Int) (x4 : Int) {t w : World} {f : FM} {H : List Seg} (HS : St t w f ([(b1, .cells #[.int .i64 v3] 2 (0, 0))] :: H)) (r1 : Int) (h : sky_Pull_1 k v3 x4 = some r1) :
    Calls Try.prog 28 #[.int .i64 x4, .pointer (some ⟨b1, 0, none⟩)] w (fun e w' => ∃ (g : FM), e = .returned (Value.int .i64 r1) ∧ FM.le f g ∧ St t w' g ([(b1, .cells #[.int .i64 v3] 2 (0, 0))] :: H)) := by
  unfold sky_Pull_1 at h
  refine enter Try.func28 rfl (tm := #[.int .i64 x4, .pointer (some ⟨b1, 0, none⟩), undef, undef, undef, undef, undef, undef, undef, undef, undef, undef, undef, undef, undef, undef, undef, undef, undef, undef, undef, undef, undef, undef, undef]) (by kernel_rfl) ?_
  intro B hret hnor hnp
  refine wp_seq_k (fun K5 hK6 => ?_)
  refine wp_region_lit ?_
  refine seqS1 (a' := ⟨#[.int .i64 x4, .pointer (some ⟨b1, 0, none⟩), undef, .int .i64 0, undef, undef, undef, undef, undef, undef, undef, undef, undef, undef, undef, undef, undef, undef, undef, undef, undef, undef, undef, undef, undef], []⟩) (by kernel_rfl) ?_
  refine wpList_nil ?_
  refine hK6 _ _ ?_
  refine wp_seq_k (fun K7 hK8 => ?_)
  refine wp_region_lit ?_
  refine seqL4 (by kernel_rfl) ?_
  refine seqK rfl (does_run (run_load rfl Try.underlying2 rfl (by kernel_rfl : _ = Value.pointer (some ⟨b1, 0, none⟩)) (HS.cell 0)) ?_)
  have hq_ := bind_some h; clear h; obtain ⟨⟨vt9, vt10⟩, hc11, h⟩ := hq_
  refine seqK rfl (does_call (f := 29) (args := #[.int .i64 9007199254740992, .int .i64 (mx x4 (w64 (0 - x4))), .int .i64 v3]) (by kernel_rfl) (num_MulDiv.calls k 9007199254740992 (mx x4 (w64 (0 - x4))) v3 HS vt9 vt10 hc11) ?_)
  rintro _ W14 ⟨f12, rfl, L13, HS15⟩
  refine ⟨_, rfl, ?_⟩
  refine seqS5 (a' := ⟨#[.int .i64 x4, .pointer (some ⟨b1, 0, none⟩), undef, .int .i64 0, .int .i64 vt9, .int .i64 vt10, .tuple #[.int .i64 vt9, .int .i64 vt10], .int .i64 x4, .int .i64 x4, .int .i64 (w64 (0 - x4)), .int .i64 (mx x4 (w64 (0 - x4))), .int .i64 v3, .tuple #[.int .i64 vt9, .int .i64 vt10], .int .i64 vt9, .int .i64 vt10, undef, undef, undef, undef, undef, undef, undef, undef, undef, undef], []⟩) (by kernel_rfl) ?_
  refine wpList_nil ?_
  refine hK8 _ _ ?_
  refine wp_seq_k (fun K16 hK17 => ?_)
  refine wp_region_lit ?_
  refine seqL1 (by kernel_rfl) ?_
  refine seqK rfl (does_run (run_load rfl Try.underlying2 rfl (by kernel_rfl : _ = Value.pointer (some ⟨b1, 0, none⟩)) (HS15.cell 0)) ?_)
  refine seqK rfl (does_run (run_load rfl Try.underlying2 rfl (by kernel_rfl : _ = Value.pointer (some ⟨b1, 0, none⟩)) (HS15.cell 0)) ?_)
  have hq_ := guard_some h; clear h; obtain ⟨c18, h⟩ := hq_
  have c18 : ¬ ((w64 (v3 * v3)) = 0) := c18
  refine seqL1 (by kernel_rfl) ?_
  refine seqK rfl (does_run (run_div rfl (by kernel_rfl : _ = Value.int .i64 vt9) (by kernel_rfl : _ = Value.int .i64 (w64 (v3 * v3))) c18 W14) ?_)
  refine seqS1 (a' := ⟨#[.int .i64 x4, .pointer (some ⟨b1, 0, none⟩), undef, .int .i64 0, .int .i64 (w64 (Int.tdiv vt9 (w64 (v3 * v3)))), .int .i64 vt10, .tuple #[.int .i64 vt9, .int .i64 vt10], .int .i64 x4, .int .i64 x4, .int .i64 (w64 (0 - x4)), .int .i64 (mx x4 (w64 (0 - x4))), .int .i64 v3, .tuple #[.int .i64 vt9, .int .i64 vt10], .int .i64 vt9, .int .i64 vt10, .int .i64 vt9, .int .i64 v3, .int .i64 v3, .int .i64 (w64 (v3 * v3)), .int .i64 (w64 (Int.tdiv vt9 (w64 (v3 * v3)))), undef, undef, undef, undef, undef], []⟩) (by kernel_rfl) ?_
  refine wpList_nil ?_
  refine hK17 _ _ ?_
  refine wp_seq_k (fun K19 hK20 => ?_)
  refine wp_seq_k (fun K21 hK22 => ?_)
  refine wp_region_lit ?_
  refine seqS2 (a' := ⟨#[.int .i64 x4, .pointer (some ⟨b1, 0, none⟩), undef, .int .i64 0, .int .i64 (w64 (Int.tdiv vt9 (w64 (v3 * v3)))), .int .i64 vt10, .tuple #[.int .i64 vt9, .int .i64 vt10], .int .i64 x4, .int .i64 x4, .int .i64 (w64 (0 - x4)), .int .i64 (mx x4 (w64 (0 - x4))), .int .i64 v3, .tuple #[.int .i64 vt9, .int .i64 vt10], .int .i64 vt9, .int .i64 vt10, .int .i64 vt9, .int .i64 v3, .int .i64 v3, .int .i64 (w64 (v3 * v3)), .int .i64 (w64 (Int.tdiv vt9 (w64 (v3 * v3)))), .int .i64 x4, .bool (decide (x4 > 0)), undef, undef, undef], []⟩) (by kernel_rfl) ?_
  refine wpList_nil ?_
  refine hK22 _ _ ?_
  have hq_ := ite_some h; clear h; rcases hq_ with ⟨c24, h⟩ | ⟨c24, h⟩
  · have c24 : x4 > 0 := c24
    refine wpRwI 21 (x := (decide (x4 > 0))) (v := true) (by kernel_rfl) (decide_eq_true c24) ?_
    refine condT (by kernel_rfl) ?_
    refine wp_seq_k (fun K25 hK26 => ?_)
    refine wp_region_lit ?_
    refine seqS3 (a' := ⟨#[.int .i64 x4, .pointer (some ⟨b1, 0, none⟩), undef, .int .i64 (w64 (0 - (w64 (Int.tdiv vt9 (w64 (v3 * v3)))))), .int .i64 (w64 (Int.tdiv vt9 (w64 (v3 * v3)))), .int .i64 vt10, .tuple #[.int .i64 vt9, .int .i64 vt10], .int .i64 x4, .int .i64 x4, .int .i64 (w64 (0 - x4)), .int .i64 (mx x4 (w64 (0 - x4))), .int .i64 v3, .tuple #[.int .i64 vt9, .int .i64 vt10], .int .i64 vt9, .int .i64 vt10, .int .i64 vt9, .int .i64 v3, .int .i64 v3, .int .i64 (w64 (v3 * v3)), .int .i64 (w64 (Int.tdiv vt9 (w64 (v3 * v3)))), .int .i64 x4, .bool true, .int .i64 (w64 (Int.tdiv vt9 (w64 (v3 * v3)))), .int .i64 (w64 (0 - (w64 (Int.tdiv vt9 (w64 (v3 * v3)))))), undef], []⟩) (by kernel_rfl) ?_
    refine wpList_nil ?_
    refine hK26 _ _ ?_
    refine wp_ret ?_
    refine hret _ _ ?_
    refine ends_still (v := Value.int .i64 (w64 (0 - (w64 (Int.tdiv vt9 (w64 (v3 * v3))))))) (by kernel_rfl) (by kernel_rfl) ?_
    injection h with h
    subst h
    exact ⟨f12, rfl, L13, HS15⟩
  · have c24 : ¬ (x4 > 0) := c24
    refine wpRwI 21 (x := (decide (x4 > 0))) (v := false) (by kernel_rfl) (decide_eq_false c24) ?_
    refine condF (by kernel_rfl) ?_
    refine wp_skip ?_
    refine hK20 _ _ ?_
    refine wp_seq_k (fun K27 hK28 => ?_)
    refine wp_region_lit ?_
    refine seqS2 (a' := ⟨#[.int .i64 x4, .pointer (some ⟨b1, 0, none⟩), undef, .int .i64 (w64 (Int.tdiv vt9 (w64 (v3 * v3)))), .int .i64 (w64 (Int.tdiv vt9 (w64 (v3 * v3)))), .int .i64 vt10, .tuple #[.int .i64 vt9, .int .i64 vt10], .int .i64 x4, .int .i64 x4, .int .i64 (w64 (0 - x4)), .int .i64 (mx x4 (w64 (0 - x4))), .int .i64 v3, .tuple #[.int .i64 vt9, .int .i64 vt10], .int .i64 vt9, .int .i64 vt10, .int .i64 vt9, .int .i64 v3, .int .i64 v3, .int .i64 (w64 (v3 * v3)), .int .i64 (w64 (Int.tdiv vt9 (w64 (v3 * v3)))), .int .i64 x4, .bool false, undef, undef, .int .i64 (w64 (Int.tdiv vt9 (w64 (v3 * v3))))], []⟩) (by kernel_rfl) ?_
    refine wpList_nil ?_
    refine hK28 _ _ ?_
    refine wp_ret ?_
    refine hret _ _ ?_
    refine ends_still (v := Value.int .i64 (w64 (Int.tdiv vt9 (w64 (v3 * v3))))) (by kernel_rfl) (by kernel_rfl) ?_
    injection h with h
    subst h
    exact ⟨f12, rfl, L13, HS15⟩

set_option maxRecDepth 100000 in
set_option maxHeartbeats 4000000 in
theorem sky_Pull.calls (k : Nat)  (vat1 : S_Vec) {t w : World} {f : FM} {H : List Seg} (HS : St t w f (H)) (r1 : S_Vec) (h : sky_Pull k vat1 = some r1) :
    Calls Try.prog 10 #[.agg #[.int .i64 vat1.X, .int .i64 vat1.Y, .int .i64 vat1.Z]] w (fun e w' => ∃ (g : FM), e = .returned (Value.agg #[.int .i64 r1.X, .int .i64 r1.Y, .int .i64 r1.Z]) ∧ FM.le f g ∧ St t w' g (H)) := by
  unfold sky_Pull at h
  refine enter Try.func10 rfl (tm := #[.agg #[.int .i64 vat1.X, .int .i64 vat1.Y, .int .i64 vat1.Z], undef, undef, undef, undef, undef, undef, undef, undef, undef, undef, undef, undef, undef, undef, undef, undef, undef, undef, undef, undef, undef, undef, undef, undef, undef, undef, undef, undef, undef, undef, undef, undef, undef, undef, undef, undef, undef, undef, undef, undef, undef, undef, undef]) (by kernel_rfl) ?_
  intro B hret hnor hnp
  refine wp_seq_k (fun K2 hK3 => ?_)
  refine wp_region_lit ?_
  refine seqK rfl (does_box (cs := #[.int .i64 vat1.X, .int .i64 vat1.Y, .int .i64 vat1.Z]) rfl (by kernel_rfl : _ = Value.agg #[.int .i64 vat1.X, .int .i64 vat1.Y, .int .i64 vat1.Z]) rfl HS ?_)
  intro b4 W5 HS6
  refine seqK rfl (does_alloc (z := Value.agg #[.int .i64 0, .int .i64 0, .int .i64 0]) (cs := #[.int .i64 0, .int .i64 0, .int .i64 0]) rfl (by kernel_rfl) rfl HS6 ?_)
  intro b8 W9 HS10
  refine wpList_nil ?_
  refine hK3 _ _ ?_
  refine wp_seq_k (fun K12 hK13 => ?_)
  refine wp_seq_k (fun K14 hK15 => ?_)
  refine wp_region_lit ?_
  refine seqK rfl (does_run (run_loadN (n := 3) rfl Try.underlying23 rfl (by kernel_rfl) (by kernel_rfl : _ = Value.pointer (some ⟨b4, 0, none⟩)) (cs := [.int .i64 vat1.X, .int .i64 vat1.Y, .int .i64 vat1.Z]) rfl (HS10.u1.cells 0 3 _ rfl)) ?_)
  have hq_ := bind_some h; clear h; obtain ⟨vt16, hc17, h⟩ := hq_
  refine seqK rfl (does_call (f := 26) (args := #[.agg #[.int .i64 vat1.X, .int .i64 vat1.Y, .int .i64 vat1.Z], .int .i64 4194304]) (by kernel_rfl) (sky_within.calls k vat1 4194304 HS10 vt16 hc17) ?_)
  rintro _ W20 ⟨f18, rfl, L19, HS21⟩
  refine ⟨_, rfl, ?_⟩
  refine seqS1 (a' := ⟨#[.agg #[.int .i64 vat1.X, .int .i64 vat1.Y, .int .i64 vat1.Z], .pointer (some ⟨b4, 0, none⟩), .pointer (some ⟨b8, 0, none⟩), undef, undef, .agg #[.int .i64 vat1.X, .int .i64 vat1.Y, .int .i64 vat1.Z], .bool vt16, .bool (!vt16), undef, undef, undef, undef, undef, undef, undef, undef, undef, undef, undef, undef, undef, undef, undef, undef, undef, undef, undef, undef, undef, undef, undef, undef, undef, undef, undef, undef, undef, undef, undef, undef, undef, undef, undef, undef], []⟩) (by kernel_rfl) ?_
  refine wpList_nil ?_
  refine hK15 _ _ ?_
  have hq_ := ite_some h; clear h; rcases hq_ with ⟨c23, h⟩ | ⟨c23, h⟩
  · have c23 : ¬ (vt16 = true) := c23
    refine wpRwI 7 (x := (!vt16)) (v := true) (by kernel_rfl) (congrArg (fun b_ => !b_) (show vt16 = false from (Bool.eq_false_iff.mpr c23)) : (!vt16) = true) ?_
    refine condT (by kernel_rfl) ?_
    refine wp_seq_k (fun K24 hK25 => ?_)
    refine wp_region_lit ?_
    refine seqL1 (by kernel_rfl) ?_
    refine seqK rfl (does_store (n := 3) (vs := [.int .i64 0, .int .i64 0, .int .i64 0]) (cs' := #[.int .i64 0, .int .i64 0, .int .i64 0]) rfl (by kernel_rfl) (by kernel_rfl : _ = Value.pointer (some ⟨b8, 0, none⟩)) (by kernel_rfl : _ = Value.agg #[.int .i64 0, .int .i64 0, .int .i64 0]) rfl rfl (by intro u_ hu_; simp only [List.mem_cons, List.not_mem_nil, or_false] at hu_; rcases hu_ with rfl | rfl | rfl <;> rfl) HS21 (Nat.le_of_ble_eq_true rfl) (by kernel_rfl) ?_)
    intro W26 HS27
    refine wpList_nil ?_
    refine hK25 _ _ ?_
    refine wp_ret ?_
    refine hret _ _ ?_
    refine ends (v := Value.agg #[.int .i64 0, .int .i64 0, .int .i64 0]) (results1 (q1 := .cell 2 23) (by kernel_rfl) (resN (n := 3) (cs := [.int .i64 0, .int .i64 0, .int .i64 0]) (by kernel_rfl : _ = Value.pointer (some ⟨b8, 0, none⟩)) Try.underlying23 rfl (by kernel_rfl) rfl (HS27.cells 0 3 _ rfl))) (by kernel_rfl) ?_
    have HS94 := HS27.drop
    have HS95 := HS94.drop
    injection h with h
    subst h
    exact ⟨f18, rfl, L19, HS95⟩
  · have c23 : ¬ (¬ (vt16 = true)) := c23
    refine wpRwI 7 (x := (!vt16)) (v := false) (by kernel_rfl) (congrArg (fun b_ => !b_) (show vt16 = true from (Decidable.of_not_not c23)) : (!vt16) = false) ?_
    refine condF (by kernel_rfl) ?_
    refine wp_skip ?_
    refine hK13 _ _ ?_
    refine wp_seq_k (fun K28 hK29 => ?_)
    refine wp_region_lit ?_
    refine seqL1 (by kernel_rfl) ?_
    refine seqK rfl (does_run (run_load rfl Try.underlying2 rfl (by kernel_rfl : _ = Value.pointer (some ⟨b4, 0, none⟩)) (HS21.u1.cell 0)) ?_)
    refine seqL1 (by kernel_rfl) ?_
    refine seqK rfl (does_run (run_load rfl Try.underlying2 rfl (by kernel_rfl : _ = Value.pointer (some ⟨b4, 0, none⟩)) (HS21.u1.cell 0)) ?_)
    refine seqL2 (by kernel_rfl) ?_
    refine seqK rfl (does_run (run_load rfl Try.underlying2 rfl (by kernel_rfl : _ = Value.pointer (some ⟨b4, 1, none⟩)) (HS21.u1.cell 1)) ?_)
    refine seqL1 (by kernel_rfl) ?_
    refine seqK rfl (does_run (run_load rfl Try.underlying2 rfl (by kernel_rfl : _ = Value.pointer (some ⟨b4, 1, none⟩)) (HS21.u1.cell 1)) ?_)
    refine seqL3 (by kernel_rfl) ?_
    refine seqK rfl (does_run (run_load rfl Try.underlying2 rfl (by kernel_rfl : _ = Value.pointer (some ⟨b4, 2, none⟩)) (HS21.u1.cell 2)) ?_)
    refine seqL1 (by kernel_rfl) ?_
    refine seqK rfl (does_run (run_load rfl Try.underlying2 rfl (by kernel_rfl : _ = Value.pointer (some ⟨b4, 2, none⟩)) (HS21.u1.cell 2)) ?_)
    have hq_ := bind_some h; clear h; obtain ⟨vt30, hc31, h⟩ := hq_
    refine seqL2 (by kernel_rfl) ?_
    refine seqK rfl (does_call (f := 27) (args := #[.int .i64 (w64 ((w64 ((w64 (vat1.X * vat1.X)) + (w64 (vat1.Y * vat1.Y)))) + (w64 (vat1.Z * vat1.Z))))]) (by kernel_rfl) (num_Sqrt.calls k (w64 ((w64 ((w64 (vat1.X * vat1.X)) + (w64 (vat1.Y * vat1.Y)))) + (w64 (vat1.Z * vat1.Z)))) HS21 vt30 hc31) ?_)
    rintro _ W34 ⟨f32, rfl, L33, HS35⟩
    refine ⟨_, rfl, ?_⟩
    refine seqK rfl (does_alloc (z := Value.int .i64 0) (cs := #[.int .i64 0]) rfl (by kernel_rfl) rfl HS35 ?_)
    intro b36 W37 HS38
    refine seqK rfl (does_store (n := 1) (vs := [.int .i64 vt30]) (cs' := #[.int .i64 vt30]) rfl (by kernel_rfl) (by kernel_rfl : _ = Value.pointer (some ⟨b36, 0, none⟩)) (by kernel_rfl : _ = Value.int .i64 vt30) rfl rfl (by intro u_ hu_; simp only [List.mem_cons, List.not_mem_nil, or_false] at hu_; subst hu_; rfl) HS38 (Nat.le_of_ble_eq_true rfl) (by kernel_rfl) ?_)
    intro W40 HS41
    refine wpList_nil ?_
    refine hK29 _ _ ?_
    refine wp_seq_k (fun K42 hK43 => ?_)
    refine wp_seq_k (fun K44 hK45 => ?_)
    refine wp_region_lit ?_
    refine seqK rfl (does_run (run_load rfl Try.underlying2 rfl (by kernel_rfl : _ = Value.pointer (some ⟨b36, 0, none⟩)) (HS41.cell 0)) ?_)
    refine seqS1 (a' := ⟨#[.agg #[.int .i64 vat1.X, .int .i64 vat1.Y, .int .i64 vat1.Z], .pointer (some ⟨b4, 0, none⟩), .pointer (some ⟨b8, 0, none⟩), .pointer (some ⟨b36, 0, none⟩), undef, .agg #[.int .i64 vat1.X, .int .i64 vat1.Y, .int .i64 vat1.Z], .bool vt16, .bool false, undef, .pointer (some ⟨b4, 0, none⟩), .int .i64 vat1.X, .pointer (some ⟨b4, 0, none⟩), .int .i64 vat1.X, .int .i64 (w64 (vat1.X * vat1.X)), .pointer (some ⟨b4, 1, none⟩), .int .i64 vat1.Y, .pointer (some ⟨b4, 1, none⟩), .int .i64 vat1.Y, .int .i64 (w64 (vat1.Y * vat1.Y)), .int .i64 (w64 ((w64 (vat1.X * vat1.X)) + (w64 (vat1.Y * vat1.Y)))), .pointer (some ⟨b4, 2, none⟩), .int .i64 vat1.Z, .pointer (some ⟨b4, 2, none⟩), .int .i64 vat1.Z, .int .i64 (w64 (vat1.Z * vat1.Z)), .int .i64 (w64 ((w64 ((w64 (vat1.X * vat1.X)) + (w64 (vat1.Y * vat1.Y)))) + (w64 (vat1.Z * vat1.Z)))), .int .i64 vt30, .int .i64 vt30, .bool (decide (vt30 < 65536)), undef, undef, undef, undef, undef, undef, undef, undef, undef, undef, undef, undef, undef, undef, undef], []⟩) (by kernel_rfl) ?_
    refine wpList_nil ?_
    refine hK45 _ _ ?_
    have hq_ := ite_some h; clear h; rcases hq_ with ⟨c47, h⟩ | ⟨c47, h⟩
    · have c47 : vt30 < 65536 := c47
      refine wpRwI 28 (x := (decide (vt30 < 65536))) (v := true) (by kernel_rfl) (decide_eq_true c47) ?_
      refine condT (by kernel_rfl) ?_
      refine wp_seq_k (fun K48 hK49 => ?_)
      refine wp_region_lit ?_
      have HS50 := HS41.u1
      refine seqL1 (by kernel_rfl) ?_
      refine seqK rfl (does_store (n := 3) (vs := [.int .i64 0, .int .i64 0, .int .i64 0]) (cs' := #[.int .i64 0, .int .i64 0, .int .i64 0]) rfl (by kernel_rfl) (by kernel_rfl : _ = Value.pointer (some ⟨b8, 0, none⟩)) (by kernel_rfl : _ = Value.agg #[.int .i64 0, .int .i64 0, .int .i64 0]) rfl rfl (by intro u_ hu_; simp only [List.mem_cons, List.not_mem_nil, or_false] at hu_; rcases hu_ with rfl | rfl | rfl <;> rfl) HS50 (Nat.le_of_ble_eq_true rfl) (by kernel_rfl) ?_)
      intro W51 HS52
      refine wpList_nil ?_
      refine hK49 _ _ ?_
      refine wp_ret ?_
      refine hret _ _ ?_
      refine ends (v := Value.agg #[.int .i64 0, .int .i64 0, .int .i64 0]) (results1 (q1 := .cell 2 23) (by kernel_rfl) (resN (n := 3) (cs := [.int .i64 0, .int .i64 0, .int .i64 0]) (by kernel_rfl : _ = Value.pointer (some ⟨b8, 0, none⟩)) Try.underlying23 rfl (by kernel_rfl) rfl (HS52.cells 0 3 _ rfl))) (by kernel_rfl) ?_
      have HS96 := HS52.drop
      have HS97 := HS96.drop
      have HS98 := HS97.drop
      injection h with h
      subst h
      exact ⟨f32, rfl, (L19.trans L33), HS98⟩
    · have c47 : ¬ (vt30 < 65536) := c47
      refine wpRwI 28 (x := (decide (vt30 < 65536))) (v := false) (by kernel_rfl) (decide_eq_false c47) ?_
      refine condF (by kernel_rfl) ?_
      refine wp_skip ?_
      refine hK43 _ _ ?_
      refine wp_seq_k (fun K53 hK54 => ?_)
      refine wp_region_lit ?_
      refine seqS2 (a' := ⟨#[.agg #[.int .i64 vat1.X, .int .i64 vat1.Y, .int .i64 vat1.Z], .pointer (some ⟨b4, 0, none⟩), .pointer (some ⟨b8, 0, none⟩), .pointer (some ⟨b36, 0, none⟩), .func (.func 28) #[] #[.pointer (some ⟨b36, 0, none⟩)], .agg #[.int .i64 vat1.X, .int .i64 vat1.Y, .int .i64 vat1.Z], .bool vt16, .bool false, undef, .pointer (some ⟨b4, 0, none⟩), .int .i64 vat1.X, .pointer (some ⟨b4, 0, none⟩), .int .i64 vat1.X, .int .i64 (w64 (vat1.X * vat1.X)), .pointer (some ⟨b4, 1, none⟩), .int .i64 vat1.Y, .pointer (some ⟨b4, 1, none⟩), .int .i64 vat1.Y, .int .i64 (w64 (vat1.Y * vat1.Y)), .int .i64 (w64 ((w64 (vat1.X * vat1.X)) + (w64 (vat1.Y * vat1.Y)))), .pointer (some ⟨b4, 2, none⟩), .int .i64 vat1.Z, .pointer (some ⟨b4, 2, none⟩), .int .i64 vat1.Z, .int .i64 (w64 (vat1.Z * vat1.Z)), .int .i64 (w64 ((w64 ((w64 (vat1.X * vat1.X)) + (w64 (vat1.Y * vat1.Y)))) + (w64 (vat1.Z * vat1.Z)))), .int .i64 vt30, .int .i64 vt30, .bool false, undef, .func (.func 28) #[] #[.pointer (some ⟨b36, 0, none⟩)], undef, undef, undef, undef, undef, undef, undef, undef, undef, undef, undef, undef, undef], []⟩) (by kernel_rfl) ?_
      refine wpList_nil ?_
      refine hK54 _ _ ?_
      refine wp_seq_k (fun K55 hK56 => ?_)
      have HS57 := HS41.u2
      have HS58 := HS57.u1
      have HS59 := HS58.u2
      refine heldG (S := Sg t f32 ([(b36, .cells #[.int .i64 vt30] 2 (0, 0))] :: [(b4, .cells #[.int .i64 vat1.X, .int .i64 vat1.Y, .int .i64 vat1.Z] 23 (0, 0))] :: H) [(13, [(b8, .cells #[.int .i64 0, .int .i64 0, .int .i64 0] 23 (0, 0))])]) (n := 14) (by kernel_rfl) rfl HS59 ?_
      intro W60 HS61
      refine takeG [0, 1] (n := 14) (fuel := 12) (l' := #[true, true, false, false, false, false, false, false, false, false, false, false, false, false]) (a' := ⟨#[.agg #[.int .i64 vat1.X, .int .i64 vat1.Y, .int .i64 vat1.Z], .pointer (some ⟨b4, 0, none⟩), .pointer (some ⟨b8, 0, none⟩), .pointer (some ⟨b36, 0, none⟩), .func (.func 28) #[] #[.pointer (some ⟨b36, 0, none⟩)], .agg #[.int .i64 vat1.X, .int .i64 vat1.Y, .int .i64 vat1.Z], .bool vt16, .bool false, undef, .pointer (some ⟨b4, 0, none⟩), .int .i64 vat1.X, .pointer (some ⟨b4, 0, none⟩), .int .i64 vat1.X, .int .i64 (w64 (vat1.X * vat1.X)), .pointer (some ⟨b4, 1, none⟩), .int .i64 vat1.Y, .pointer (some ⟨b4, 1, none⟩), .int .i64 vat1.Y, .int .i64 (w64 (vat1.Y * vat1.Y)), .int .i64 (w64 ((w64 (vat1.X * vat1.X)) + (w64 (vat1.Y * vat1.Y)))), .pointer (some ⟨b4, 2, none⟩), .int .i64 vat1.Z, .pointer (some ⟨b4, 2, none⟩), .int .i64 vat1.Z, .int .i64 (w64 (vat1.Z * vat1.Z)), .int .i64 (w64 ((w64 ((w64 (vat1.X * vat1.X)) + (w64 (vat1.Y * vat1.Y)))) + (w64 (vat1.Z * vat1.Z)))), .int .i64 vt30, .int .i64 vt30, .bool false, undef, .func (.func 28) #[] #[.pointer (some ⟨b36, 0, none⟩)], .func (.func 28) #[] #[.pointer (some ⟨b36, 0, none⟩)], .pointer (some ⟨b4, 0, none⟩), undef, undef, undef, undef, undef, undef, undef, undef, undef, undef, undef], []⟩) rfl (by kernel_rfl) (by kernel_rfl) (by kernel_rfl) hnp (Sg.g1 (Sx.of [[(b8, .cells #[.int .i64 0, .int .i64 0, .int .i64 0] 23 (0, 0))]] (FM.le.refl _) HS61) (fun _ => St.only [] HS61 (FM.le.refl _))) ?_
      refine takeGQ 2 [] rfl (by kernel_rfl) (by kernel_rfl) (by kernel_rfl) (by kernel_rfl) (by kernel_rfl) (by kernel_rfl) hnp (Sg.g1 (Sx.of [[(b8, .cells #[.int .i64 0, .int .i64 0, .int .i64 0] 23 (0, 0))]] (FM.le.refl _) HS61) (fun _ => St.only [] HS61 (FM.le.refl _))) (fun w_ hw_ => by obtain ⟨g_, hl_, hS_⟩ := hw_.st; exact run_load rfl Try.underlying2 rfl (by kernel_rfl : _ = Value.pointer (some ⟨b4, 0, none⟩)) (hS_.u1.cell 0)) ?_
      refine takeG [4, 5] (n := 11) (fuel := 9) (l' := #[true, true, true, false, true, true, false, false, false, false, false, false, false, false]) (a' := ⟨#[.agg #[.int .i64 vat1.X, .int .i64 vat1.Y, .int .i64 vat1.Z], .pointer (some ⟨b4, 0, none⟩), .pointer (some ⟨b8, 0, none⟩), .pointer (some ⟨b36, 0, none⟩), .func (.func 28) #[] #[.pointer (some ⟨b36, 0, none⟩)], .agg #[.int .i64 vat1.X, .int .i64 vat1.Y, .int .i64 vat1.Z], .bool vt16, .bool false, undef, .pointer (some ⟨b4, 0, none⟩), .int .i64 vat1.X, .pointer (some ⟨b4, 0, none⟩), .int .i64 vat1.X, .int .i64 (w64 (vat1.X * vat1.X)), .pointer (some ⟨b4, 1, none⟩), .int .i64 vat1.Y, .pointer (some ⟨b4, 1, none⟩), .int .i64 vat1.Y, .int .i64 (w64 (vat1.Y * vat1.Y)), .int .i64 (w64 ((w64 (vat1.X * vat1.X)) + (w64 (vat1.Y * vat1.Y)))), .pointer (some ⟨b4, 2, none⟩), .int .i64 vat1.Z, .pointer (some ⟨b4, 2, none⟩), .int .i64 vat1.Z, .int .i64 (w64 (vat1.Z * vat1.Z)), .int .i64 (w64 ((w64 ((w64 (vat1.X * vat1.X)) + (w64 (vat1.Y * vat1.Y)))) + (w64 (vat1.Z * vat1.Z)))), .int .i64 vt30, .int .i64 vt30, .bool false, undef, .func (.func 28) #[] #[.pointer (some ⟨b36, 0, none⟩)], .func (.func 28) #[] #[.pointer (some ⟨b36, 0, none⟩)], .pointer (some ⟨b4, 0, none⟩), .int .i64 vat1.X, undef, .func (.func 28) #[] #[.pointer (some ⟨b36, 0, none⟩)], .pointer (some ⟨b4, 1, none⟩), undef, undef, undef, undef, undef, undef, undef], []⟩) rfl (by kernel_rfl) (by kernel_rfl) (by kernel_rfl) hnp (Sg.g1 (Sx.of [[(b8, .cells #[.int .i64 0, .int .i64 0, .int .i64 0] 23 (0, 0))]] (FM.le.refl _) HS61) (fun _ => St.only [] HS61 (FM.le.refl _))) ?_
      refine takeGQ 6 [] rfl (by kernel_rfl) (by kernel_rfl) (by kernel_rfl) (by kernel_rfl) (by kernel_rfl) (by kernel_rfl) hnp (Sg.g1 (Sx.of [[(b8, .cells #[.int .i64 0, .int .i64 0, .int .i64 0] 23 (0, 0))]] (FM.le.refl _) HS61) (fun _ => St.only [] HS61 (FM.le.refl _))) (fun w_ hw_ => by obtain ⟨g_, hl_, hS_⟩ := hw_.st; exact run_load rfl Try.underlying2 rfl (by kernel_rfl : _ = Value.pointer (some ⟨b4, 1, none⟩)) (hS_.u1.cell 1)) ?_
      refine takeG [8, 9] (n := 8) (fuel := 6) (l' := #[true, true, true, false, true, true, true, false, true, true, false, false, false, false]) (a' := ⟨#[.agg #[.int .i64 vat1.X, .int .i64 vat1.Y, .int .i64 vat1.Z], .pointer (some ⟨b4, 0, none⟩), .pointer (some ⟨b8, 0, none⟩), .pointer (some ⟨b36, 0, none⟩), .func (.func 28) #[] #[.pointer (some ⟨b36, 0, none⟩)], .agg #[.int .i64 vat1.X, .int .i64 vat1.Y, .int .i64 vat1.Z], .bool vt16, .bool false, undef, .pointer (some ⟨b4, 0, none⟩), .int .i64 vat1.X, .pointer (some ⟨b4, 0, none⟩), .int .i64 vat1.X, .int .i64 (w64 (vat1.X * vat1.X)), .pointer (some ⟨b4, 1, none⟩), .int .i64 vat1.Y, .pointer (some ⟨b4, 1, none⟩), .int .i64 vat1.Y, .int .i64 (w64 (vat1.Y * vat1.Y)), .int .i64 (w64 ((w64 (vat1.X * vat1.X)) + (w64 (vat1.Y * vat1.Y)))), .pointer (some ⟨b4, 2, none⟩), .int .i64 vat1.Z, .pointer (some ⟨b4, 2, none⟩), .int .i64 vat1.Z, .int .i64 (w64 (vat1.Z * vat1.Z)), .int .i64 (w64 ((w64 ((w64 (vat1.X * vat1.X)) + (w64 (vat1.Y * vat1.Y)))) + (w64 (vat1.Z * vat1.Z)))), .int .i64 vt30, .int .i64 vt30, .bool false, undef, .func (.func 28) #[] #[.pointer (some ⟨b36, 0, none⟩)], .func (.func 28) #[] #[.pointer (some ⟨b36, 0, none⟩)], .pointer (some ⟨b4, 0, none⟩), .int .i64 vat1.X, undef, .func (.func 28) #[] #[.pointer (some ⟨b36, 0, none⟩)], .pointer (some ⟨b4, 1, none⟩), .int .i64 vat1.Y, undef, .func (.func 28) #[] #[.pointer (some ⟨b36, 0, none⟩)], .pointer (some ⟨b4, 2, none⟩), undef, undef, undef], []⟩) rfl (by kernel_rfl) (by kernel_rfl) (by kernel_rfl) hnp (Sg.g1 (Sx.of [[(b8, .cells #[.int .i64 0, .int .i64 0, .int .i64 0] 23 (0, 0))]] (FM.le.refl _) HS61) (fun _ => St.only [] HS61 (FM.le.refl _))) ?_
      refine takeGQ 10 [] rfl (by kernel_rfl) (by kernel_rfl) (by kernel_rfl) (by kernel_rfl) (by kernel_rfl) (by kernel_rfl) hnp (Sg.g1 (Sx.of [[(b8, .cells #[.int .i64 0, .int .i64 0, .int .i64 0] 23 (0, 0))]] (FM.le.refl _) HS61) (fun _ => St.only [] HS61 (FM.le.refl _))) (fun w_ hw_ => by obtain ⟨g_, hl_, hS_⟩ := hw_.st; exact run_load rfl Try.underlying2 rfl (by kernel_rfl : _ = Value.pointer (some ⟨b4, 2, none⟩)) (hS_.u1.cell 2)) ?_
      have HS62 := HS61.u1
      have hq_ := bind_some h; clear h; obtain ⟨vt63, hc64, h⟩ := hq_
      refine takeGE 3 (by kernel_rfl) rfl (by kernel_rfl) (does_call (f := 28) (args := #[.int .i64 vat1.X, .pointer (some ⟨b36, 0, none⟩)]) (by kernel_rfl) (sky_Pull_1.calls k b36 vt30 vat1.X HS62 vt63 hc64) ?_)
      rintro _ W67 ⟨f65, rfl, L66, HS68⟩
      refine ⟨_, rfl, ?_⟩
      have HS69 := HS68.u2
      have HS70 := HS69.u1
      have HS71 := HS70.u2
      refine ⟨(Sg.g1 (Sx.of [[(b8, .cells #[.int .i64 0, .int .i64 0, .int .i64 0] 23 (0, 0))]] L66 HS71) (fun _ => St.only [] HS71 L66)), ?_⟩
      have HS72 := HS71.u1
      have hq_ := bind_some h; clear h; obtain ⟨vt73, hc74, h⟩ := hq_
      refine takeGE 7 (by kernel_rfl) rfl (by kernel_rfl) (does_call (f := 28) (args := #[.int .i64 vat1.Y, .pointer (some ⟨b36, 0, none⟩)]) (by kernel_rfl) (sky_Pull_1.calls k b36 vt30 vat1.Y HS72 vt73 hc74) ?_)
      rintro _ W77 ⟨f75, rfl, L76, HS78⟩
      refine ⟨_, rfl, ?_⟩
      have HS79 := HS78.u2
      have HS80 := HS79.u1
      have HS81 := HS80.u2
      refine ⟨(Sg.g1 (Sx.of [[(b8, .cells #[.int .i64 0, .int .i64 0, .int .i64 0] 23 (0, 0))]] (L66.trans L76) HS81) (fun _ => St.only [] HS81 (L66.trans L76))), ?_⟩
      have HS82 := HS81.u1
      have hq_ := bind_some h; clear h; obtain ⟨vt83, hc84, h⟩ := hq_
      refine takeGE 11 (by kernel_rfl) rfl (by kernel_rfl) (does_call (f := 28) (args := #[.int .i64 vat1.Z, .pointer (some ⟨b36, 0, none⟩)]) (by kernel_rfl) (sky_Pull_1.calls k b36 vt30 vat1.Z HS82 vt83 hc84) ?_)
      rintro _ W87 ⟨f85, rfl, L86, HS88⟩
      refine ⟨_, rfl, ?_⟩
      have HS89 := HS88.u2
      have HS90 := HS89.u1
      have HS91 := HS90.u2
      refine ⟨(Sg.g1 (Sx.of [[(b8, .cells #[.int .i64 0, .int .i64 0, .int .i64 0] 23 (0, 0))]] (L66.trans (L76.trans L86)) HS91) (fun _ => St.only [] HS91 (L66.trans (L76.trans L86)))), ?_⟩
      refine takeG [12] (n := 2) (fuel := 1) (l' := #[true, true, true, true, true, true, true, true, true, true, true, true, true, false]) (a' := ⟨#[.agg #[.int .i64 vat1.X, .int .i64 vat1.Y, .int .i64 vat1.Z], .pointer (some ⟨b4, 0, none⟩), .pointer (some ⟨b8, 0, none⟩), .pointer (some ⟨b36, 0, none⟩), .func (.func 28) #[] #[.pointer (some ⟨b36, 0, none⟩)], .agg #[.int .i64 vat1.X, .int .i64 vat1.Y, .int .i64 vat1.Z], .bool vt16, .bool false, undef, .pointer (some ⟨b4, 0, none⟩), .int .i64 vat1.X, .pointer (some ⟨b4, 0, none⟩), .int .i64 vat1.X, .int .i64 (w64 (vat1.X * vat1.X)), .pointer (some ⟨b4, 1, none⟩), .int .i64 vat1.Y, .pointer (some ⟨b4, 1, none⟩), .int .i64 vat1.Y, .int .i64 (w64 (vat1.Y * vat1.Y)), .int .i64 (w64 ((w64 (vat1.X * vat1.X)) + (w64 (vat1.Y * vat1.Y)))), .pointer (some ⟨b4, 2, none⟩), .int .i64 vat1.Z, .pointer (some ⟨b4, 2, none⟩), .int .i64 vat1.Z, .int .i64 (w64 (vat1.Z * vat1.Z)), .int .i64 (w64 ((w64 ((w64 (vat1.X * vat1.X)) + (w64 (vat1.Y * vat1.Y)))) + (w64 (vat1.Z * vat1.Z)))), .int .i64 vt30, .int .i64 vt30, .bool false, undef, .func (.func 28) #[] #[.pointer (some ⟨b36, 0, none⟩)], .func (.func 28) #[] #[.pointer (some ⟨b36, 0, none⟩)], .pointer (some ⟨b4, 0, none⟩), .int .i64 vat1.X, .int .i64 vt63, .func (.func 28) #[] #[.pointer (some ⟨b36, 0, none⟩)], .pointer (some ⟨b4, 1, none⟩), .int .i64 vat1.Y, .int .i64 vt73, .func (.func 28) #[] #[.pointer (some ⟨b36, 0, none⟩)], .pointer (some ⟨b4, 2, none⟩), .int .i64 vat1.Z, .int .i64 vt83, .agg #[.int .i64 vt63, .int .i64 vt73, .int .i64 vt83]], []⟩) rfl (by kernel_rfl) (by kernel_rfl) (by kernel_rfl) hnp (Sg.g1 (Sx.of [[(b8, .cells #[.int .i64 0, .int .i64 0, .int .i64 0] 23 (0, 0))]] (L66.trans (L76.trans L86)) HS91) (fun _ => St.only [] HS91 (L66.trans (L76.trans L86)))) ?_
      refine takeGE 13 (by kernel_rfl) rfl (by kernel_rfl) (does_store (n := 3) (vs := [.int .i64 vt63, .int .i64 vt73, .int .i64 vt83]) (cs' := #[.int .i64 vt63, .int .i64 vt73, .int .i64 vt83]) rfl (by kernel_rfl) (by kernel_rfl : _ = Value.pointer (some ⟨b8, 0, none⟩)) (by kernel_rfl : _ = Value.agg #[.int .i64 vt63, .int .i64 vt73, .int .i64 vt83]) rfl rfl (by intro u_ hu_; simp only [List.mem_cons, List.not_mem_nil, or_false] at hu_; rcases hu_ with rfl | rfl | rfl <;> rfl) HS91 (Nat.le_of_ble_eq_true rfl) (by kernel_rfl) ?_)
      intro W92 HS93
      refine ⟨(Sg.g1 (Sx.of [[(b8, .cells #[.int .i64 vt63, .int .i64 vt73, .int .i64 vt83] 23 (0, 0))]] (L66.trans (L76.trans L86)) HS93) (fun hl_ => Bool.noConfusion (show true = false from hl_))), ?_⟩
      refine doneG (by kernel_rfl) ?_ _
      refine hK56 _ _ ?_
      refine wp_ret ?_
      refine hret _ _ ?_
      refine ends (v := Value.agg #[.int .i64 vt63, .int .i64 vt73, .int .i64 vt83]) (results1 (q1 := .cell 2 23) (by kernel_rfl) (resN (n := 3) (cs := [.int .i64 vt63, .int .i64 vt73, .int .i64 vt83]) (by kernel_rfl : _ = Value.pointer (some ⟨b8, 0, none⟩)) Try.underlying23 rfl (by kernel_rfl) rfl (HS93.cells 0 3 _ rfl))) (by kernel_rfl) ?_
      have HS99 := HS93.drop
      have HS100 := HS99.drop
      have HS101 := HS100.drop
      injection h with h
      subst h
      exact ⟨f85, rfl, (L19.trans (L33.trans (L66.trans (L76.trans L86)))), HS101⟩

set_option maxRecDepth 100000 in
set_option maxHeartbeats 4000000 in
theorem sky_Step.calls (k : Nat)  (was1 : S_Vec) (here2 : S_Vec) {t w : World} {f : FM} {H : List Seg} (HS : St t w f (H)) (r1 : S_Vec) (r2 : Int) (h : sky_Step k was1 here2 = some (r1, r2)) :
    Calls Try.prog 8 #[.agg #[.int .i64 was1.X, .int .i64 was1.Y, .int .i64 was1.Z], .agg #[.int .i64 here2.X, .int .i64 here2.Y, .int .i64 here2.Z]] w (fun e w' => ∃ (g : FM), e = .returned (Value.tuple #[.agg #[.int .i64 r1.X, .int .i64 r1.Y, .int .i64 r1.Z], .int .i64 r2]) ∧ FM.le f g ∧ St t w' g (H)) := by
  unfold sky_Step at h
  refine enter Try.func8 rfl (tm := #[.agg #[.int .i64 was1.X, .int .i64 was1.Y, .int .i64 was1.Z], .agg #[.int .i64 here2.X, .int .i64 here2.Y, .int .i64 here2.Z], undef, undef, undef, undef, undef, undef, undef, undef, undef, undef, undef, undef, undef, undef, undef, undef, undef, undef, undef, undef, undef, undef, undef, undef, undef, undef, undef, undef, undef, undef, undef, undef, undef, undef, undef, undef, undef, undef, undef, undef, undef, undef, undef, undef, undef, undef, undef, undef, undef, undef]) (by kernel_rfl) ?_
  intro B hret hnor hnp
  refine wp_seq_k (fun K3 hK4 => ?_)
  refine wp_region_lit ?_
  refine seqK rfl (does_box (cs := #[.int .i64 was1.X, .int .i64 was1.Y, .int .i64 was1.Z]) rfl (by kernel_rfl : _ = Value.agg #[.int .i64 was1.X, .int .i64 was1.Y, .int .i64 was1.Z]) rfl HS ?_)
  intro b5 W6 HS7
  refine seqK rfl (does_box (cs := #[.int .i64 here2.X, .int .i64 here2.Y, .int .i64 here2.Z]) rfl (by kernel_rfl : _ = Value.agg #[.int .i64 here2.X, .int .i64 here2.Y, .int .i64 here2.Z]) rfl HS7 ?_)
  intro b9 W10 HS11
  refine seqK rfl (does_alloc (z := Value.agg #[.int .i64 0, .int .i64 0, .int .i64 0]) (cs := #[.int .i64 0, .int .i64 0, .int .i64 0]) rfl (by kernel_rfl) rfl HS11 ?_)
  intro b13 W14 HS15
  refine seqS1 (a' := ⟨#[.agg #[.int .i64 was1.X, .int .i64 was1.Y, .int .i64 was1.Z], .agg #[.int .i64 here2.X, .int .i64 here2.Y, .int .i64 here2.Z], .pointer (some ⟨b5, 0, none⟩), .pointer (some ⟨b9, 0, none⟩), .pointer (some ⟨b13, 0, none⟩), .int .i64 0, undef, undef, undef, undef, undef, undef, undef, undef, undef, undef, undef, undef, undef, undef, undef, undef, undef, undef, undef, undef, undef, undef, undef, undef, undef, undef, undef, undef, undef, undef, undef, undef, undef, undef, undef, undef, undef, undef, undef, undef, undef, undef, undef, undef, undef, undef], []⟩) (by kernel_rfl) ?_
  refine wpList_nil ?_
  refine hK4 _ _ ?_
  refine wp_seq_k (fun K17 hK18 => ?_)
  refine wp_seq_k (fun K19 hK20 => ?_)
  refine wp_region_lit ?_
  refine seqK rfl (does_run (run_loadN (n := 3) rfl Try.underlying23 rfl (by kernel_rfl) (by kernel_rfl : _ = Value.pointer (some ⟨b5, 0, none⟩)) (cs := [.int .i64 was1.X, .int .i64 was1.Y, .int .i64 was1.Z]) rfl (HS15.u2.cells 0 3 _ rfl)) ?_)
  have hq_ := bind_some h; clear h; obtain ⟨vt21, hc22, h⟩ := hq_
  refine seqK rfl (does_call (f := 26) (args := #[.agg #[.int .i64 was1.X, .int .i64 was1.Y, .int .i64 was1.Z], .int .i64 4194304]) (by kernel_rfl) (sky_within.calls k was1 4194304 HS15 vt21 hc22) ?_)
  rintro _ W25 ⟨f23, rfl, L24, HS26⟩
  refine ⟨_, rfl, ?_⟩
  refine seqS2 (a' := ⟨#[.agg #[.int .i64 was1.X, .int .i64 was1.Y, .int .i64 was1.Z], .agg #[.int .i64 here2.X, .int .i64 here2.Y, .int .i64 here2.Z], .pointer (some ⟨b5, 0, none⟩), .pointer (some ⟨b9, 0, none⟩), .pointer (some ⟨b13, 0, none⟩), .int .i64 0, undef, undef, .agg #[.int .i64 was1.X, .int .i64 was1.Y, .int .i64 was1.Z], .bool vt21, .bool (!vt21), .bool (!vt21), undef, undef, undef, undef, undef, undef, undef, undef, undef, undef, undef, undef, undef, undef, undef, undef, undef, undef, undef, undef, undef, undef, undef, undef, undef, undef, undef, undef, undef, undef, undef, undef, undef, undef, undef, undef, undef, undef, undef, undef], []⟩) (by kernel_rfl) ?_
  have hq_ := ite_some h; clear h; rcases hq_ with ⟨c27, h⟩ | ⟨c27, h⟩
  · have c27 : ¬ (vt21 = true) := c27
    refine seqRwI 10 (x := (!vt21)) (v := true) (by kernel_rfl) (congrArg (fun b_ => !b_) (show vt21 = false from (Bool.eq_false_iff.mpr c27)) : (!vt21) = true) ?_
    refine seqRwI 11 (x := (!vt21)) (v := true) (by kernel_rfl) (congrArg (fun b_ => !b_) (show vt21 = false from (Bool.eq_false_iff.mpr c27)) : (!vt21) = true) ?_
    refine seqS4 (a' := ⟨#[.agg #[.int .i64 was1.X, .int .i64 was1.Y, .int .i64 was1.Z], .agg #[.int .i64 here2.X, .int .i64 here2.Y, .int .i64 here2.Z], .pointer (some ⟨b5, 0, none⟩), .pointer (some ⟨b9, 0, none⟩), .pointer (some ⟨b13, 0, none⟩), .int .i64 0, undef, undef, .agg #[.int .i64 was1.X, .int .i64 was1.Y, .int .i64 was1.Z], .bool vt21, .bool true, .bool true, undef, undef, undef, .bool true, undef, undef, undef, undef, undef, undef, undef, undef, undef, undef, undef, undef, undef, undef, undef, undef, undef, undef, undef, undef, undef, undef, undef, undef, undef, undef, undef, undef, undef, undef, undef, undef, undef, undef, undef, undef], []⟩) (by kernel_rfl) ?_
    refine wpList_nil ?_
    refine hK20 _ _ ?_
    refine condT (by kernel_rfl) ?_
    refine wp_seq_k (fun K28 hK29 => ?_)
    refine wp_region_lit ?_
    refine seqL1 (by kernel_rfl) ?_
    refine seqK rfl (does_store (n := 3) (vs := [.int .i64 0, .int .i64 0, .int .i64 0]) (cs' := #[.int .i64 0, .int .i64 0, .int .i64 0]) rfl (by kernel_rfl) (by kernel_rfl : _ = Value.pointer (some ⟨b13, 0, none⟩)) (by kernel_rfl : _ = Value.agg #[.int .i64 0, .int .i64 0, .int .i64 0]) rfl rfl (by intro u_ hu_; simp only [List.mem_cons, List.not_mem_nil, or_false] at hu_; rcases hu_ with rfl | rfl | rfl <;> rfl) HS26 (Nat.le_of_ble_eq_true rfl) (by kernel_rfl) ?_)
    intro W30 HS31
    refine seqS1 (a' := ⟨#[.agg #[.int .i64 was1.X, .int .i64 was1.Y, .int .i64 was1.Z], .agg #[.int .i64 here2.X, .int .i64 here2.Y, .int .i64 here2.Z], .pointer (some ⟨b5, 0, none⟩), .pointer (some ⟨b9, 0, none⟩), .pointer (some ⟨b13, 0, none⟩), .int .i64 4, undef, undef, .agg #[.int .i64 was1.X, .int .i64 was1.Y, .int .i64 was1.Z], .bool vt21, .bool true, .bool true, undef, undef, undef, .bool true, .agg #[.int .i64 0, .int .i64 0, .int .i64 0], undef, undef, undef, undef, undef, undef, undef, undef, undef, undef, undef, undef, undef, undef, undef, undef, undef, undef, undef, undef, undef, undef, undef, undef, undef, undef, undef, undef, undef, undef, undef, undef, undef, undef, undef], []⟩) (by kernel_rfl) ?_
    refine wpList_nil ?_
    refine hK29 _ _ ?_
    refine wp_ret ?_
    refine hret _ _ ?_
    refine ends (v := Value.tuple #[.agg #[.int .i64 0, .int .i64 0, .int .i64 0], .int .i64 4]) (results2 (q1 := .cell 4 23) (q2 := .tmp 5) (by kernel_rfl) (resN (n := 3) (cs := [.int .i64 0, .int .i64 0, .int .i64 0]) (by kernel_rfl : _ = Value.pointer (some ⟨b13, 0, none⟩)) Try.underlying23 rfl (by kernel_rfl) rfl (HS31.cells 0 3 _ rfl)) (resT (by kernel_rfl : _ = Value.int .i64 4))) (by kernel_rfl) ?_
    have HS88 := HS31.drop
    have HS89 := HS88.drop
    have HS90 := HS89.drop
    injection h with h
    injection h with h0_ h
    subst h0_ h
    exact ⟨f23, rfl, L24, HS90⟩
  · have c27 : ¬ (¬ (vt21 = true)) := c27
    refine seqRwI 10 (x := (!vt21)) (v := false) (by kernel_rfl) (congrArg (fun b_ => !b_) (show vt21 = true from (Decidable.of_not_not c27)) : (!vt21) = false) ?_
    refine seqRwI 11 (x := (!vt21)) (v := false) (by kernel_rfl) (congrArg (fun b_ => !b_) (show vt21 = true from (Decidable.of_not_not c27)) : (!vt21) = false) ?_
    refine seqG (by kernel_rfl) (does_run (run_loadN (n := 3) rfl Try.underlying23 rfl (by kernel_rfl) (by kernel_rfl : _ = Value.pointer (some ⟨b9, 0, none⟩)) (cs := [.int .i64 here2.X, .int .i64 here2.Y, .int .i64 here2.Z]) rfl (HS26.u1.cells 0 3 _ rfl)) ?_)
    have hq_ := bind_some h; clear h; obtain ⟨vt32, hc33, h⟩ := hq_
    refine seqG (by kernel_rfl) (does_call (f := 26) (args := #[.agg #[.int .i64 here2.X, .int .i64 here2.Y, .int .i64 here2.Z], .int .i64 4194304]) (by kernel_rfl) (sky_within.calls k here2 4194304 HS26 vt32 hc33) ?_)
    rintro _ W36 ⟨f34, rfl, L35, HS37⟩
    refine ⟨_, rfl, ?_⟩
    refine seqS2 (a' := ⟨#[.agg #[.int .i64 was1.X, .int .i64 was1.Y, .int .i64 was1.Z], .agg #[.int .i64 here2.X, .int .i64 here2.Y, .int .i64 here2.Z], .pointer (some ⟨b5, 0, none⟩), .pointer (some ⟨b9, 0, none⟩), .pointer (some ⟨b13, 0, none⟩), .int .i64 0, undef, undef, .agg #[.int .i64 was1.X, .int .i64 was1.Y, .int .i64 was1.Z], .bool vt21, .bool false, .bool false, .agg #[.int .i64 here2.X, .int .i64 here2.Y, .int .i64 here2.Z], .bool vt32, .bool (!vt32), .bool (!vt32), undef, undef, undef, undef, undef, undef, undef, undef, undef, undef, undef, undef, undef, undef, undef, undef, undef, undef, undef, undef, undef, undef, undef, undef, undef, undef, undef, undef, undef, undef, undef, undef, undef, undef, undef, undef], []⟩) (by kernel_rfl) ?_
    refine wpList_nil ?_
    refine hK20 _ _ ?_
    have hq_ := ite_some h; clear h; rcases hq_ with ⟨c39, h⟩ | ⟨c39, h⟩
    · have c39 : ¬ (vt32 = true) := c39
      refine wpRwI 14 (x := (!vt32)) (v := true) (by kernel_rfl) (congrArg (fun b_ => !b_) (show vt32 = false from (Bool.eq_false_iff.mpr c39)) : (!vt32) = true) ?_
      refine wpRwI 15 (x := (!vt32)) (v := true) (by kernel_rfl) (congrArg (fun b_ => !b_) (show vt32 = false from (Bool.eq_false_iff.mpr c39)) : (!vt32) = true) ?_
      refine condT (by kernel_rfl) ?_
      refine wp_seq_k (fun K40 hK41 => ?_)
      refine wp_region_lit ?_
      refine seqL1 (by kernel_rfl) ?_
      refine seqK rfl (does_store (n := 3) (vs := [.int .i64 0, .int .i64 0, .int .i64 0]) (cs' := #[.int .i64 0, .int .i64 0, .int .i64 0]) rfl (by kernel_rfl) (by kernel_rfl : _ = Value.pointer (some ⟨b13, 0, none⟩)) (by kernel_rfl : _ = Value.agg #[.int .i64 0, .int .i64 0, .int .i64 0]) rfl rfl (by intro u_ hu_; simp only [List.mem_cons, List.not_mem_nil, or_false] at hu_; rcases hu_ with rfl | rfl | rfl <;> rfl) HS37 (Nat.le_of_ble_eq_true rfl) (by kernel_rfl) ?_)
      intro W42 HS43
      refine seqS1 (a' := ⟨#[.agg #[.int .i64 was1.X, .int .i64 was1.Y, .int .i64 was1.Z], .agg #[.int .i64 here2.X, .int .i64 here2.Y, .int .i64 here2.Z], .pointer (some ⟨b5, 0, none⟩), .pointer (some ⟨b9, 0, none⟩), .pointer (some ⟨b13, 0, none⟩), .int .i64 4, undef, undef, .agg #[.int .i64 was1.X, .int .i64 was1.Y, .int .i64 was1.Z], .bool vt21, .bool false, .bool false, .agg #[.int .i64 here2.X, .int .i64 here2.Y, .int .i64 here2.Z], .bool vt32, .bool true, .bool true, .agg #[.int .i64 0, .int .i64 0, .int .i64 0], undef, undef, undef, undef, undef, undef, undef, undef, undef, undef, undef, undef, undef, undef, undef, undef, undef, undef, undef, undef, undef, undef, undef, undef, undef, undef, undef, undef, undef, undef, undef, undef, undef, undef, undef], []⟩) (by kernel_rfl) ?_
      refine wpList_nil ?_
      refine hK41 _ _ ?_
      refine wp_ret ?_
      refine hret _ _ ?_
      refine ends (v := Value.tuple #[.agg #[.int .i64 0, .int .i64 0, .int .i64 0], .int .i64 4]) (results2 (q1 := .cell 4 23) (q2 := .tmp 5) (by kernel_rfl) (resN (n := 3) (cs := [.int .i64 0, .int .i64 0, .int .i64 0]) (by kernel_rfl : _ = Value.pointer (some ⟨b13, 0, none⟩)) Try.underlying23 rfl (by kernel_rfl) rfl (HS43.cells 0 3 _ rfl)) (resT (by kernel_rfl : _ = Value.int .i64 4))) (by kernel_rfl) ?_
      have HS91 := HS43.drop
      have HS92 := HS91.drop
      have HS93 := HS92.drop
      injection h with h
      injection h with h0_ h
      subst h0_ h
      exact ⟨f34, rfl, (L24.trans L35), HS93⟩
    · have c39 : ¬ (¬ (vt32 = true)) := c39
      refine wpRwI 14 (x := (!vt32)) (v := false) (by kernel_rfl) (congrArg (fun b_ => !b_) (show vt32 = true from (Decidable.of_not_not c39)) : (!vt32) = false) ?_
      refine wpRwI 15 (x := (!vt32)) (v := false) (by kernel_rfl) (congrArg (fun b_ => !b_) (show vt32 = true from (Decidable.of_not_not c39)) : (!vt32) = false) ?_
      refine condF (by kernel_rfl) ?_
      refine wp_skip ?_
      refine hK18 _ _ ?_
      refine wp_seq_k (fun K44 hK45 => ?_)
      refine wp_region_lit ?_
      refine seqK rfl (does_run (run_loadN (n := 3) rfl Try.underlying23 rfl (by kernel_rfl) (by kernel_rfl : _ = Value.pointer (some ⟨b9, 0, none⟩)) (cs := [.int .i64 here2.X, .int .i64 here2.Y, .int .i64 here2.Z]) rfl (HS37.u1.cells 0 3 _ rfl)) ?_)
      have hq_ := bind_some h; clear h; obtain ⟨vt46, hc47, h⟩ := hq_
      refine seqK rfl (does_call (f := 10) (args := #[.agg #[.int .i64 here2.X, .int .i64 here2.Y, .int .i64 here2.Z]]) (by kernel_rfl) (sky_Pull.calls k here2 HS37 vt46 hc47) ?_)
      rintro _ W50 ⟨f48, rfl, L49, HS51⟩
      refine ⟨_, rfl, ?_⟩
      refine seqK rfl (does_alloc (z := Value.agg #[.int .i64 0, .int .i64 0, .int .i64 0]) (cs := #[.int .i64 0, .int .i64 0, .int .i64 0]) rfl (by kernel_rfl) rfl HS51 ?_)
      intro b52 W53 HS54
      refine seqK rfl (does_store (n := 3) (vs := [.int .i64 vt46.X, .int .i64 vt46.Y, .int .i64 vt46.Z]) (cs' := #[.int .i64 vt46.X, .int .i64 vt46.Y, .int .i64 vt46.Z]) rfl (by kernel_rfl) (by kernel_rfl : _ = Value.pointer (some ⟨b52, 0, none⟩)) (by kernel_rfl : _ = Value.agg #[.int .i64 vt46.X, .int .i64 vt46.Y, .int .i64 vt46.Z]) rfl rfl (by intro u_ hu_; simp only [List.mem_cons, List.not_mem_nil, or_false] at hu_; rcases hu_ with rfl | rfl | rfl <;> rfl) HS54 (Nat.le_of_ble_eq_true rfl) (by kernel_rfl) ?_)
      intro W56 HS57
      refine wpList_nil ?_
      refine hK45 _ _ ?_
      refine wp_seq_k (fun K58 hK59 => ?_)
      refine wp_region_lit ?_
      refine seqL1 (by kernel_rfl) ?_
      refine seqK rfl (does_run (run_load rfl Try.underlying2 rfl (by kernel_rfl : _ = Value.pointer (some ⟨b9, 0, none⟩)) (HS57.u2.cell 0)) ?_)
      refine seqL2 (by kernel_rfl) ?_
      refine seqK rfl (does_run (run_load rfl Try.underlying2 rfl (by kernel_rfl : _ = Value.pointer (some ⟨b5, 0, none⟩)) (HS57.u3.cell 0)) ?_)
      refine seqL2 (by kernel_rfl) ?_
      refine seqK rfl (does_run (run_load rfl Try.underlying2 rfl (by kernel_rfl : _ = Value.pointer (some ⟨b52, 0, none⟩)) (HS57.cell 0)) ?_)
      refine seqL2 (by kernel_rfl) ?_
      refine seqK rfl (does_run (run_load rfl Try.underlying2 rfl (by kernel_rfl : _ = Value.pointer (some ⟨b9, 1, none⟩)) (HS57.u2.cell 1)) ?_)
      refine seqL2 (by kernel_rfl) ?_
      refine seqK rfl (does_run (run_load rfl Try.underlying2 rfl (by kernel_rfl : _ = Value.pointer (some ⟨b5, 1, none⟩)) (HS57.u3.cell 1)) ?_)
      refine seqL2 (by kernel_rfl) ?_
      refine seqK rfl (does_run (run_load rfl Try.underlying2 rfl (by kernel_rfl : _ = Value.pointer (some ⟨b52, 1, none⟩)) (HS57.cell 1)) ?_)
      refine seqL2 (by kernel_rfl) ?_
      refine seqK rfl (does_run (run_load rfl Try.underlying2 rfl (by kernel_rfl : _ = Value.pointer (some ⟨b9, 2, none⟩)) (HS57.u2.cell 2)) ?_)
      refine seqL2 (by kernel_rfl) ?_
      refine seqK rfl (does_run (run_load rfl Try.underlying2 rfl (by kernel_rfl : _ = Value.pointer (some ⟨b5, 2, none⟩)) (HS57.u3.cell 2)) ?_)
      refine seqL2 (by kernel_rfl) ?_
      refine seqK rfl (does_run (run_load rfl Try.underlying2 rfl (by kernel_rfl : _ = Value.pointer (some ⟨b52, 2, none⟩)) (HS57.cell 2)) ?_)
      refine seqL2 (by kernel_rfl) ?_
      refine seqK rfl (does_alloc (z := Value.agg #[.int .i64 0, .int .i64 0, .int .i64 0]) (cs := #[.int .i64 0, .int .i64 0, .int .i64 0]) rfl (by kernel_rfl) rfl HS57 ?_)
      intro b60 W61 HS62
      refine seqK rfl (does_store (n := 3) (vs := [.int .i64 (w64 ((w64 ((w64 (2 * here2.X)) - was1.X)) + vt46.X)), .int .i64 (w64 ((w64 ((w64 (2 * here2.Y)) - was1.Y)) + vt46.Y)), .int .i64 (w64 ((w64 ((w64 (2 * here2.Z)) - was1.Z)) + vt46.Z))]) (cs' := #[.int .i64 (w64 ((w64 ((w64 (2 * here2.X)) - was1.X)) + vt46.X)), .int .i64 (w64 ((w64 ((w64 (2 * here2.Y)) - was1.Y)) + vt46.Y)), .int .i64 (w64 ((w64 ((w64 (2 * here2.Z)) - was1.Z)) + vt46.Z))]) rfl (by kernel_rfl) (by kernel_rfl : _ = Value.pointer (some ⟨b60, 0, none⟩)) (by kernel_rfl : _ = Value.agg #[.int .i64 (w64 ((w64 ((w64 (2 * here2.X)) - was1.X)) + vt46.X)), .int .i64 (w64 ((w64 ((w64 (2 * here2.Y)) - was1.Y)) + vt46.Y)), .int .i64 (w64 ((w64 ((w64 (2 * here2.Z)) - was1.Z)) + vt46.Z))]) rfl rfl (by intro u_ hu_; simp only [List.mem_cons, List.not_mem_nil, or_false] at hu_; rcases hu_ with rfl | rfl | rfl <;> rfl) HS62 (Nat.le_of_ble_eq_true rfl) (by kernel_rfl) ?_)
      intro W64 HS65
      refine wpList_nil ?_
      refine hK59 _ _ ?_
      refine wp_seq_k (fun K66 hK67 => ?_)
      refine wp_seq_k (fun K68 hK69 => ?_)
      refine wp_region_lit ?_
      refine seqK rfl (does_run (run_loadN (n := 3) rfl Try.underlying23 rfl (by kernel_rfl) (by kernel_rfl : _ = Value.pointer (some ⟨b60, 0, none⟩)) (cs := [.int .i64 (w64 ((w64 ((w64 (2 * here2.X)) - was1.X)) + vt46.X)), .int .i64 (w64 ((w64 ((w64 (2 * here2.Y)) - was1.Y)) + vt46.Y)), .int .i64 (w64 ((w64 ((w64 (2 * here2.Z)) - was1.Z)) + vt46.Z))]) rfl (HS65.cells 0 3 _ rfl)) ?_)
      have hq_ := bind_some h; clear h; obtain ⟨vt70, hc71, h⟩ := hq_
      refine seqK rfl (does_call (f := 26) (args := #[.agg #[.int .i64 (w64 ((w64 ((w64 (2 * here2.X)) - was1.X)) + vt46.X)), .int .i64 (w64 ((w64 ((w64 (2 * here2.Y)) - was1.Y)) + vt46.Y)), .int .i64 (w64 ((w64 ((w64 (2 * here2.Z)) - was1.Z)) + vt46.Z))], .int .i64 4194304]) (by kernel_rfl) (sky_within.calls k (⟨w64 ((w64 ((w64 (2 * here2.X)) - was1.X)) + vt46.X), w64 ((w64 ((w64 (2 * here2.Y)) - was1.Y)) + vt46.Y), w64 ((w64 ((w64 (2 * here2.Z)) - was1.Z)) + vt46.Z)⟩ : S_Vec) 4194304 HS65 vt70 hc71) ?_)
      rintro _ W74 ⟨f72, rfl, L73, HS75⟩
      refine ⟨_, rfl, ?_⟩
      refine seqS1 (a' := ⟨#[.agg #[.int .i64 was1.X, .int .i64 was1.Y, .int .i64 was1.Z], .agg #[.int .i64 here2.X, .int .i64 here2.Y, .int .i64 here2.Z], .pointer (some ⟨b5, 0, none⟩), .pointer (some ⟨b9, 0, none⟩), .pointer (some ⟨b13, 0, none⟩), .int .i64 0, .pointer (some ⟨b52, 0, none⟩), .pointer (some ⟨b60, 0, none⟩), .agg #[.int .i64 was1.X, .int .i64 was1.Y, .int .i64 was1.Z], .bool vt21, .bool false, .bool false, .agg #[.int .i64 here2.X, .int .i64 here2.Y, .int .i64 here2.Z], .bool vt32, .bool false, .bool false, undef, .agg #[.int .i64 here2.X, .int .i64 here2.Y, .int .i64 here2.Z], .agg #[.int .i64 vt46.X, .int .i64 vt46.Y, .int .i64 vt46.Z], .pointer (some ⟨b9, 0, none⟩), .int .i64 here2.X, .int .i64 (w64 (2 * here2.X)), .pointer (some ⟨b5, 0, none⟩), .int .i64 was1.X, .int .i64 (w64 ((w64 (2 * here2.X)) - was1.X)), .pointer (some ⟨b52, 0, none⟩), .int .i64 vt46.X, .int .i64 (w64 ((w64 ((w64 (2 * here2.X)) - was1.X)) + vt46.X)), .pointer (some ⟨b9, 1, none⟩), .int .i64 here2.Y, .int .i64 (w64 (2 * here2.Y)), .pointer (some ⟨b5, 1, none⟩), .int .i64 was1.Y, .int .i64 (w64 ((w64 (2 * here2.Y)) - was1.Y)), .pointer (some ⟨b52, 1, none⟩), .int .i64 vt46.Y, .int .i64 (w64 ((w64 ((w64 (2 * here2.Y)) - was1.Y)) + vt46.Y)), .pointer (some ⟨b9, 2, none⟩), .int .i64 here2.Z, .int .i64 (w64 (2 * here2.Z)), .pointer (some ⟨b5, 2, none⟩), .int .i64 was1.Z, .int .i64 (w64 ((w64 (2 * here2.Z)) - was1.Z)), .pointer (some ⟨b52, 2, none⟩), .int .i64 vt46.Z, .int .i64 (w64 ((w64 ((w64 (2 * here2.Z)) - was1.Z)) + vt46.Z)), .agg #[.int .i64 (w64 ((w64 ((w64 (2 * here2.X)) - was1.X)) + vt46.X)), .int .i64 (w64 ((w64 ((w64 (2 * here2.Y)) - was1.Y)) + vt46.Y)), .int .i64 (w64 ((w64 ((w64 (2 * here2.Z)) - was1.Z)) + vt46.Z))], .agg #[.int .i64 (w64 ((w64 ((w64 (2 * here2.X)) - was1.X)) + vt46.X)), .int .i64 (w64 ((w64 ((w64 (2 * here2.Y)) - was1.Y)) + vt46.Y)), .int .i64 (w64 ((w64 ((w64 (2 * here2.Z)) - was1.Z)) + vt46.Z))], .bool vt70, .bool (!vt70), undef, undef], []⟩) (by kernel_rfl) ?_
      refine wpList_nil ?_
      refine hK69 _ _ ?_
      have hq_ := ite_some h; clear h; rcases hq_ with ⟨c77, h⟩ | ⟨c77, h⟩
      · have c77 : ¬ (vt70 = true) := c77
        refine wpRwI 49 (x := (!vt70)) (v := true) (by kernel_rfl) (congrArg (fun b_ => !b_) (show vt70 = false from (Bool.eq_false_iff.mpr c77)) : (!vt70) = true) ?_
        refine condT (by kernel_rfl) ?_
        refine wp_seq_k (fun K78 hK79 => ?_)
        refine wp_region_lit ?_
        have HS80 := HS75.u2
        refine seqL1 (by kernel_rfl) ?_
        refine seqK rfl (does_store (n := 3) (vs := [.int .i64 0, .int .i64 0, .int .i64 0]) (cs' := #[.int .i64 0, .int .i64 0, .int .i64 0]) rfl (by kernel_rfl) (by kernel_rfl : _ = Value.pointer (some ⟨b13, 0, none⟩)) (by kernel_rfl : _ = Value.agg #[.int .i64 0, .int .i64 0, .int .i64 0]) rfl rfl (by intro u_ hu_; simp only [List.mem_cons, List.not_mem_nil, or_false] at hu_; rcases hu_ with rfl | rfl | rfl <;> rfl) HS80 (Nat.le_of_ble_eq_true rfl) (by kernel_rfl) ?_)
        intro W81 HS82
        refine seqS1 (a' := ⟨#[.agg #[.int .i64 was1.X, .int .i64 was1.Y, .int .i64 was1.Z], .agg #[.int .i64 here2.X, .int .i64 here2.Y, .int .i64 here2.Z], .pointer (some ⟨b5, 0, none⟩), .pointer (some ⟨b9, 0, none⟩), .pointer (some ⟨b13, 0, none⟩), .int .i64 18, .pointer (some ⟨b52, 0, none⟩), .pointer (some ⟨b60, 0, none⟩), .agg #[.int .i64 was1.X, .int .i64 was1.Y, .int .i64 was1.Z], .bool vt21, .bool false, .bool false, .agg #[.int .i64 here2.X, .int .i64 here2.Y, .int .i64 here2.Z], .bool vt32, .bool false, .bool false, undef, .agg #[.int .i64 here2.X, .int .i64 here2.Y, .int .i64 here2.Z], .agg #[.int .i64 vt46.X, .int .i64 vt46.Y, .int .i64 vt46.Z], .pointer (some ⟨b9, 0, none⟩), .int .i64 here2.X, .int .i64 (w64 (2 * here2.X)), .pointer (some ⟨b5, 0, none⟩), .int .i64 was1.X, .int .i64 (w64 ((w64 (2 * here2.X)) - was1.X)), .pointer (some ⟨b52, 0, none⟩), .int .i64 vt46.X, .int .i64 (w64 ((w64 ((w64 (2 * here2.X)) - was1.X)) + vt46.X)), .pointer (some ⟨b9, 1, none⟩), .int .i64 here2.Y, .int .i64 (w64 (2 * here2.Y)), .pointer (some ⟨b5, 1, none⟩), .int .i64 was1.Y, .int .i64 (w64 ((w64 (2 * here2.Y)) - was1.Y)), .pointer (some ⟨b52, 1, none⟩), .int .i64 vt46.Y, .int .i64 (w64 ((w64 ((w64 (2 * here2.Y)) - was1.Y)) + vt46.Y)), .pointer (some ⟨b9, 2, none⟩), .int .i64 here2.Z, .int .i64 (w64 (2 * here2.Z)), .pointer (some ⟨b5, 2, none⟩), .int .i64 was1.Z, .int .i64 (w64 ((w64 (2 * here2.Z)) - was1.Z)), .pointer (some ⟨b52, 2, none⟩), .int .i64 vt46.Z, .int .i64 (w64 ((w64 ((w64 (2 * here2.Z)) - was1.Z)) + vt46.Z)), .agg #[.int .i64 (w64 ((w64 ((w64 (2 * here2.X)) - was1.X)) + vt46.X)), .int .i64 (w64 ((w64 ((w64 (2 * here2.Y)) - was1.Y)) + vt46.Y)), .int .i64 (w64 ((w64 ((w64 (2 * here2.Z)) - was1.Z)) + vt46.Z))], .agg #[.int .i64 (w64 ((w64 ((w64 (2 * here2.X)) - was1.X)) + vt46.X)), .int .i64 (w64 ((w64 ((w64 (2 * here2.Y)) - was1.Y)) + vt46.Y)), .int .i64 (w64 ((w64 ((w64 (2 * here2.Z)) - was1.Z)) + vt46.Z))], .bool vt70, .bool true, .agg #[.int .i64 0, .int .i64 0, .int .i64 0], undef], []⟩) (by kernel_rfl) ?_
        refine wpList_nil ?_
        refine hK79 _ _ ?_
        refine wp_ret ?_
        refine hret _ _ ?_
        refine ends (v := Value.tuple #[.agg #[.int .i64 0, .int .i64 0, .int .i64 0], .int .i64 18]) (results2 (q1 := .cell 4 23) (q2 := .tmp 5) (by kernel_rfl) (resN (n := 3) (cs := [.int .i64 0, .int .i64 0, .int .i64 0]) (by kernel_rfl : _ = Value.pointer (some ⟨b13, 0, none⟩)) Try.underlying23 rfl (by kernel_rfl) rfl (HS82.cells 0 3 _ rfl)) (resT (by kernel_rfl : _ = Value.int .i64 18))) (by kernel_rfl) ?_
        have HS94 := HS82.drop
        have HS95 := HS94.drop
        have HS96 := HS95.drop
        have HS97 := HS96.drop
        have HS98 := HS97.drop
        injection h with h
        injection h with h0_ h
        subst h0_ h
        exact ⟨f72, rfl, (L24.trans (L35.trans (L49.trans L73))), HS98⟩
      · have c77 : ¬ (¬ (vt70 = true)) := c77
        refine wpRwI 49 (x := (!vt70)) (v := false) (by kernel_rfl) (congrArg (fun b_ => !b_) (show vt70 = true from (Decidable.of_not_not c77)) : (!vt70) = false) ?_
        refine condF (by kernel_rfl) ?_
        refine wp_skip ?_
        refine hK67 _ _ ?_
        refine wp_seq_k (fun K83 hK84 => ?_)
        refine wp_region_lit ?_
        refine seqK rfl (does_run (run_loadN (n := 3) rfl Try.underlying23 rfl (by kernel_rfl) (by kernel_rfl : _ = Value.pointer (some ⟨b60, 0, none⟩)) (cs := [.int .i64 (w64 ((w64 ((w64 (2 * here2.X)) - was1.X)) + vt46.X)), .int .i64 (w64 ((w64 ((w64 (2 * here2.Y)) - was1.Y)) + vt46.Y)), .int .i64 (w64 ((w64 ((w64 (2 * here2.Z)) - was1.Z)) + vt46.Z))]) rfl (HS75.cells 0 3 _ rfl)) ?_)
        have HS85 := HS75.u2
        refine seqK rfl (does_store (n := 3) (vs := [.int .i64 (w64 ((w64 ((w64 (2 * here2.X)) - was1.X)) + vt46.X)), .int .i64 (w64 ((w64 ((w64 (2 * here2.Y)) - was1.Y)) + vt46.Y)), .int .i64 (w64 ((w64 ((w64 (2 * here2.Z)) - was1.Z)) + vt46.Z))]) (cs' := #[.int .i64 (w64 ((w64 ((w64 (2 * here2.X)) - was1.X)) + vt46.X)), .int .i64 (w64 ((w64 ((w64 (2 * here2.Y)) - was1.Y)) + vt46.Y)), .int .i64 (w64 ((w64 ((w64 (2 * here2.Z)) - was1.Z)) + vt46.Z))]) rfl (by kernel_rfl) (by kernel_rfl : _ = Value.pointer (some ⟨b13, 0, none⟩)) (by kernel_rfl : _ = Value.agg #[.int .i64 (w64 ((w64 ((w64 (2 * here2.X)) - was1.X)) + vt46.X)), .int .i64 (w64 ((w64 ((w64 (2 * here2.Y)) - was1.Y)) + vt46.Y)), .int .i64 (w64 ((w64 ((w64 (2 * here2.Z)) - was1.Z)) + vt46.Z))]) rfl rfl (by intro u_ hu_; simp only [List.mem_cons, List.not_mem_nil, or_false] at hu_; rcases hu_ with rfl | rfl | rfl <;> rfl) HS85 (Nat.le_of_ble_eq_true rfl) (by kernel_rfl) ?_)
        intro W86 HS87
        refine seqS1 (a' := ⟨#[.agg #[.int .i64 was1.X, .int .i64 was1.Y, .int .i64 was1.Z], .agg #[.int .i64 here2.X, .int .i64 here2.Y, .int .i64 here2.Z], .pointer (some ⟨b5, 0, none⟩), .pointer (some ⟨b9, 0, none⟩), .pointer (some ⟨b13, 0, none⟩), .int .i64 0, .pointer (some ⟨b52, 0, none⟩), .pointer (some ⟨b60, 0, none⟩), .agg #[.int .i64 was1.X, .int .i64 was1.Y, .int .i64 was1.Z], .bool vt21, .bool false, .bool false, .agg #[.int .i64 here2.X, .int .i64 here2.Y, .int .i64 here2.Z], .bool vt32, .bool false, .bool false, undef, .agg #[.int .i64 here2.X, .int .i64 here2.Y, .int .i64 here2.Z], .agg #[.int .i64 vt46.X, .int .i64 vt46.Y, .int .i64 vt46.Z], .pointer (some ⟨b9, 0, none⟩), .int .i64 here2.X, .int .i64 (w64 (2 * here2.X)), .pointer (some ⟨b5, 0, none⟩), .int .i64 was1.X, .int .i64 (w64 ((w64 (2 * here2.X)) - was1.X)), .pointer (some ⟨b52, 0, none⟩), .int .i64 vt46.X, .int .i64 (w64 ((w64 ((w64 (2 * here2.X)) - was1.X)) + vt46.X)), .pointer (some ⟨b9, 1, none⟩), .int .i64 here2.Y, .int .i64 (w64 (2 * here2.Y)), .pointer (some ⟨b5, 1, none⟩), .int .i64 was1.Y, .int .i64 (w64 ((w64 (2 * here2.Y)) - was1.Y)), .pointer (some ⟨b52, 1, none⟩), .int .i64 vt46.Y, .int .i64 (w64 ((w64 ((w64 (2 * here2.Y)) - was1.Y)) + vt46.Y)), .pointer (some ⟨b9, 2, none⟩), .int .i64 here2.Z, .int .i64 (w64 (2 * here2.Z)), .pointer (some ⟨b5, 2, none⟩), .int .i64 was1.Z, .int .i64 (w64 ((w64 (2 * here2.Z)) - was1.Z)), .pointer (some ⟨b52, 2, none⟩), .int .i64 vt46.Z, .int .i64 (w64 ((w64 ((w64 (2 * here2.Z)) - was1.Z)) + vt46.Z)), .agg #[.int .i64 (w64 ((w64 ((w64 (2 * here2.X)) - was1.X)) + vt46.X)), .int .i64 (w64 ((w64 ((w64 (2 * here2.Y)) - was1.Y)) + vt46.Y)), .int .i64 (w64 ((w64 ((w64 (2 * here2.Z)) - was1.Z)) + vt46.Z))], .agg #[.int .i64 (w64 ((w64 ((w64 (2 * here2.X)) - was1.X)) + vt46.X)), .int .i64 (w64 ((w64 ((w64 (2 * here2.Y)) - was1.Y)) + vt46.Y)), .int .i64 (w64 ((w64 ((w64 (2 * here2.Z)) - was1.Z)) + vt46.Z))], .bool vt70, .bool false, undef, .agg #[.int .i64 (w64 ((w64 ((w64 (2 * here2.X)) - was1.X)) + vt46.X)), .int .i64 (w64 ((w64 ((w64 (2 * here2.Y)) - was1.Y)) + vt46.Y)), .int .i64 (w64 ((w64 ((w64 (2 * here2.Z)) - was1.Z)) + vt46.Z))]], []⟩) (by kernel_rfl) ?_
        refine wpList_nil ?_
        refine hK84 _ _ ?_
        refine wp_ret ?_
        refine hret _ _ ?_
        refine ends (v := Value.tuple #[.agg #[.int .i64 (w64 ((w64 ((w64 (2 * here2.X)) - was1.X)) + vt46.X)), .int .i64 (w64 ((w64 ((w64 (2 * here2.Y)) - was1.Y)) + vt46.Y)), .int .i64 (w64 ((w64 ((w64 (2 * here2.Z)) - was1.Z)) + vt46.Z))], .int .i64 0]) (results2 (q1 := .cell 4 23) (q2 := .tmp 5) (by kernel_rfl) (resN (n := 3) (cs := [.int .i64 (w64 ((w64 ((w64 (2 * here2.X)) - was1.X)) + vt46.X)), .int .i64 (w64 ((w64 ((w64 (2 * here2.Y)) - was1.Y)) + vt46.Y)), .int .i64 (w64 ((w64 ((w64 (2 * here2.Z)) - was1.Z)) + vt46.Z))]) (by kernel_rfl : _ = Value.pointer (some ⟨b13, 0, none⟩)) Try.underlying23 rfl (by kernel_rfl) rfl (HS87.cells 0 3 _ rfl)) (resT (by kernel_rfl : _ = Value.int .i64 0))) (by kernel_rfl) ?_
        have HS99 := HS87.drop
        have HS100 := HS99.drop
        have HS101 := HS100.drop
        have HS102 := HS101.drop
        have HS103 := HS102.drop
        injection h with h
        injection h with h0_ h
        subst h0_ h
        exact ⟨f72, rfl, (L24.trans (L35.trans (L49.trans L73))), HS103⟩

set_option maxRecDepth 100000 in
set_option maxHeartbeats 4000000 in
theorem spykeep3_pulls.calls (k : Nat)   {t w : World} {f : FM} {H : List Seg} (HS : St t w f (H)) (r1 : Bool) (h : spykeep3_pulls k = some r1) :
    Calls Try.prog 9 #[] w (fun e w' => ∃ (g : FM), e = .returned (Value.bool r1) ∧ FM.le f g ∧ St t w' g (H)) := by
  unfold spykeep3_pulls at h
  refine enter Try.func9 rfl (tm := #[undef, undef, undef, undef, undef, undef, undef, undef, undef, undef, undef, undef, undef, undef, undef, undef]) (by kernel_rfl) ?_
  intro B hret hnor hnp
  refine wp_seq_k (fun K1 hK2 => ?_)
  refine wp_region_lit ?_
  refine seqS1 (a' := ⟨#[.bool false, undef, undef, undef, undef, undef, undef, undef, undef, undef, undef, undef, undef, undef, undef, undef], []⟩) (by kernel_rfl) ?_
  refine wpList_nil ?_
  refine hK2 _ _ ?_
  refine wp_seq_k (fun K3 hK4 => ?_)
  refine wp_region_lit ?_
  have hq_ := bind_some h; clear h; obtain ⟨⟨vt5, vt6⟩, hc7, h⟩ := hq_
  refine seqL2 (by kernel_rfl) ?_
  refine seqK rfl (does_call (f := 8) (args := #[.agg #[.int .i64 1048576, .int .i64 0, .int .i64 0], .agg #[.int .i64 1048576, .int .i64 0, .int .i64 0]]) (by kernel_rfl) (sky_Step.calls k (⟨1048576, 0, 0⟩ : S_Vec) (⟨1048576, 0, 0⟩ : S_Vec) HS vt5 vt6 hc7) ?_)
  rintro _ W10 ⟨f8, rfl, L9, HS11⟩
  refine ⟨_, rfl, ?_⟩
  refine seqL3 (by kernel_rfl) ?_
  refine seqK rfl (does_alloc (z := Value.agg #[.int .i64 0, .int .i64 0, .int .i64 0]) (cs := #[.int .i64 0, .int .i64 0, .int .i64 0]) rfl (by kernel_rfl) rfl HS11 ?_)
  intro b12 W13 HS14
  refine seqK rfl (does_store (n := 3) (vs := [.int .i64 vt5.X, .int .i64 vt5.Y, .int .i64 vt5.Z]) (cs' := #[.int .i64 vt5.X, .int .i64 vt5.Y, .int .i64 vt5.Z]) rfl (by kernel_rfl) (by kernel_rfl : _ = Value.pointer (some ⟨b12, 0, none⟩)) (by kernel_rfl : _ = Value.agg #[.int .i64 vt5.X, .int .i64 vt5.Y, .int .i64 vt5.Z]) rfl rfl (by intro u_ hu_; simp only [List.mem_cons, List.not_mem_nil, or_false] at hu_; rcases hu_ with rfl | rfl | rfl <;> rfl) HS14 (Nat.le_of_ble_eq_true rfl) (by kernel_rfl) ?_)
  intro W16 HS17
  refine seqS1 (a' := ⟨#[.bool false, .pointer (some ⟨b12, 0, none⟩), .int .i64 vt6, .tuple #[.agg #[.int .i64 vt5.X, .int .i64 vt5.Y, .int .i64 vt5.Z], .int .i64 vt6], .agg #[.int .i64 1048576, .int .i64 0, .int .i64 0], .agg #[.int .i64 1048576, .int .i64 0, .int .i64 0], .tuple #[.agg #[.int .i64 vt5.X, .int .i64 vt5.Y, .int .i64 vt5.Z], .int .i64 vt6], .agg #[.int .i64 vt5.X, .int .i64 vt5.Y, .int .i64 vt5.Z], .int .i64 vt6, undef, undef, undef, undef, undef, undef, undef], []⟩) (by kernel_rfl) ?_
  refine wpList_nil ?_
  refine hK4 _ _ ?_
  refine wp_seq_k (fun K18 hK19 => ?_)
  refine wp_region_lit ?_
  refine seqS3 (a' := ⟨#[.bool false, .pointer (some ⟨b12, 0, none⟩), .int .i64 vt6, .tuple #[.agg #[.int .i64 vt5.X, .int .i64 vt5.Y, .int .i64 vt5.Z], .int .i64 vt6], .agg #[.int .i64 1048576, .int .i64 0, .int .i64 0], .agg #[.int .i64 1048576, .int .i64 0, .int .i64 0], .tuple #[.agg #[.int .i64 vt5.X, .int .i64 vt5.Y, .int .i64 vt5.Z], .int .i64 vt6], .agg #[.int .i64 vt5.X, .int .i64 vt5.Y, .int .i64 vt5.Z], .int .i64 vt6, .int .i64 vt6, .bool (vt6 == 0), .bool (vt6 == 0), undef, undef, undef, undef], []⟩) (by kernel_rfl) ?_
  have hq_ := ite_some h; clear h; rcases hq_ with ⟨c20, h⟩ | ⟨c20, h⟩
  · have c20 : vt6 = 0 := c20
    refine seqRwI 10 (x := (vt6 == 0)) (v := true) (by kernel_rfl) (beq_iff_eq.mpr c20) ?_
    refine seqRwI 11 (x := (vt6 == 0)) (v := true) (by kernel_rfl) (beq_iff_eq.mpr c20) ?_
    refine seqG (by kernel_rfl) (does_run (run_loadN (n := 3) rfl Try.underlying23 rfl (by kernel_rfl) (by kernel_rfl : _ = Value.pointer (some ⟨b12, 0, none⟩)) (cs := [.int .i64 vt5.X, .int .i64 vt5.Y, .int .i64 vt5.Z]) rfl (HS17.cells 0 3 _ rfl)) ?_)
    refine seqL1 (by kernel_rfl) ?_
    refine seqG (by kernel_rfl) (does_run (run_eqS (b := ((vt5.X == 1040384) && ((vt5.Y == 0) && ((vt5.Z == 0) && true)))) rfl (by kernel_rfl : _ = Value.agg #[.int .i64 vt5.X, .int .i64 vt5.Y, .int .i64 vt5.Z]) (by kernel_rfl : _ = Value.agg #[.int .i64 1040384, .int .i64 0, .int .i64 0]) (by kernel_rfl) (by kernel_rfl) W16) ?_)
    refine seqS2 (a' := ⟨#[.bool ((vt5.X == 1040384) && ((vt5.Y == 0) && ((vt5.Z == 0) && true))), .pointer (some ⟨b12, 0, none⟩), .int .i64 vt6, .tuple #[.agg #[.int .i64 vt5.X, .int .i64 vt5.Y, .int .i64 vt5.Z], .int .i64 vt6], .agg #[.int .i64 1048576, .int .i64 0, .int .i64 0], .agg #[.int .i64 1048576, .int .i64 0, .int .i64 0], .tuple #[.agg #[.int .i64 vt5.X, .int .i64 vt5.Y, .int .i64 vt5.Z], .int .i64 vt6], .agg #[.int .i64 vt5.X, .int .i64 vt5.Y, .int .i64 vt5.Z], .int .i64 vt6, .int .i64 vt6, .bool true, .bool true, .agg #[.int .i64 vt5.X, .int .i64 vt5.Y, .int .i64 vt5.Z], .agg #[.int .i64 1040384, .int .i64 0, .int .i64 0], .bool ((vt5.X == 1040384) && ((vt5.Y == 0) && ((vt5.Z == 0) && true))), .bool ((vt5.X == 1040384) && ((vt5.Y == 0) && ((vt5.Z == 0) && true)))], []⟩) (by kernel_rfl) ?_
    refine wpList_nil ?_
    refine hK19 _ _ ?_
    refine wp_ret ?_
    refine hret _ _ ?_
    refine ends_still (v := Value.bool ((vt5.X == 1040384) && ((vt5.Y == 0) && ((vt5.Z == 0) && true)))) (by kernel_rfl) (by kernel_rfl) ?_
    have HS21 := HS17.drop
    injection h with h
    subst h
    exact ⟨f8, rfl, L9, HS21⟩
  · have c20 : ¬ (vt6 = 0) := c20
    refine seqRwI 10 (x := (vt6 == 0)) (v := false) (by kernel_rfl) (beq_eq_false_iff_ne.mpr c20) ?_
    refine seqRwI 11 (x := (vt6 == 0)) (v := false) (by kernel_rfl) (beq_eq_false_iff_ne.mpr c20) ?_
    refine seqS5 (a' := ⟨#[.bool false, .pointer (some ⟨b12, 0, none⟩), .int .i64 vt6, .tuple #[.agg #[.int .i64 vt5.X, .int .i64 vt5.Y, .int .i64 vt5.Z], .int .i64 vt6], .agg #[.int .i64 1048576, .int .i64 0, .int .i64 0], .agg #[.int .i64 1048576, .int .i64 0, .int .i64 0], .tuple #[.agg #[.int .i64 vt5.X, .int .i64 vt5.Y, .int .i64 vt5.Z], .int .i64 vt6], .agg #[.int .i64 vt5.X, .int .i64 vt5.Y, .int .i64 vt5.Z], .int .i64 vt6, .int .i64 vt6, .bool false, .bool false, undef, undef, undef, .bool false], []⟩) (by kernel_rfl) ?_
    refine wpList_nil ?_
    refine hK19 _ _ ?_
    refine wp_ret ?_
    refine hret _ _ ?_
    refine ends_still (v := Value.bool false) (by kernel_rfl) (by kernel_rfl) ?_
    have HS22 := HS17.drop
    injection h with h
    subst h
    exact ⟨f8, rfl, L9, HS22⟩

set_option maxRecDepth 100000 in
set_option maxHeartbeats 4000000 in
theorem big_trim.calls (k : Nat) (A2 : Option Addr) (c3 : Nat) (m1 : List Int) {t w : World} {f : FM} {H : List Seg} (HS : St t w f (H)) (HR4 : SlR (tInt .u32) f A2 c3 m1) (r1 : List Int) (h : big_trim k m1 = some r1) :
    Calls Try.prog 50 #[.slice A2 m1.length c3] w (fun e w' => ∃ (g : FM) (A60 : Option Addr) (c61 : Nat), e = .returned (Value.slice A60 r1.length c61) ∧ FM.le f g ∧ St t w' g (H) ∧ SlR (tInt .u32) g A60 c61 r1) := by
  unfold big_trim at h
  refine enter Try.func50 rfl (tm := #[.slice A2 m1.length c3, undef, undef, undef, undef, undef, undef, undef, undef, undef, undef, undef, undef, undef, undef, undef, undef, undef, undef, undef, undef]) (by kernel_rfl) ?_
  intro B hret hnor hnp
  refine wp_seq_k (fun K5 hK6 => ?_)
  refine wp_region_lit ?_
  refine seqS1 (a' := ⟨#[.slice A2 m1.length c3, undef, .slice none 0 0, undef, undef, undef, undef, undef, undef, undef, undef, undef, undef, undef, undef, undef, undef, undef, undef, undef, undef], []⟩) (by kernel_rfl) ?_
  refine wpList_nil ?_
  refine hK6 _ _ ?_
  refine wp_seq_k (fun K7 hK8 => ?_)
  refine blockK (fun B9 hx10 hn11 hr12 ho13 hp14 => ?_)
  have hq_ := bind_some h; clear h; obtain ⟨o15, hv55, h⟩ := hq_
  have J56 : ∀ (f48 : FM) (m53 : List Int) (j52 : Nat → Value) (W50 : World) (a_ : Act), FM.le f f48 → some (m53) = some o15 → St t W50 f48 (H) → SlR (tInt .u32) f48 A2 c3 m53 → a_ = ⟨#[.slice A2 m53.length c3, undef, .slice none 0 0, (j52 0), (j52 1), (j52 2), (j52 3), (j52 4), (j52 5), (j52 6), (j52 7), (j52 8), (j52 9), (j52 10), (j52 11), (j52 12), (j52 13), (j52 14), (j52 15), (j52 16), undef], []⟩ → K7 a_ W50 := by
    intro f48 m53 j52 W50 a_ L49 hj57 HS51 HR54 hfr_; subst hfr_
    injection hj57 with hj57; subst hj57; try dsimp only at h
    refine hK8 _ _ ?_
    refine wp_seq_k (fun K58 hK59 => ?_)
    refine wp_region_lit ?_
    refine seqS2 (a' := ⟨#[.slice A2 m53.length c3, undef, .slice A2 m53.length c3, (j52 0), (j52 1), (j52 2), (j52 3), (j52 4), (j52 5), (j52 6), (j52 7), (j52 8), (j52 9), (j52 10), (j52 11), (j52 12), (j52 13), (j52 14), (j52 15), (j52 16), .slice A2 m53.length c3], []⟩) (by kernel_rfl) ?_
    refine wpList_nil ?_
    refine hK59 _ _ ?_
    refine wp_ret ?_
    refine hret _ _ ?_
    refine ends_still (v := Value.slice A2 m53.length c3) (by kernel_rfl) (by kernel_rfl) ?_
    injection h with h
    subst h
    exact ⟨f48, A2, c3, rfl, L49, HS51, HR54⟩
  clear h; have h := hv55; clear hv55
  refine loopK (fun n_ a_ w_ => ∃ (f19 : FM) (m24 : List Int) (j23 : Nat → Value), FM.le f f19 ∧ St t w_ f19 (H) ∧ SlR (tInt .u32) f19 A2 c3 m24 ∧ big_trim.l0 k n_ m24 = some o15 ∧ a_ = ⟨#[.slice A2 m24.length c3, undef, .slice none 0 0, (j23 0), (j23 1), (j23 2), (j23 3), (j23 4), (j23 5), (j23 6), (j23 7), (j23 8), (j23 9), (j23 10), (j23 11), (j23 12), (j23 13), (j23 14), (j23 15), (j23 16), undef], []⟩) k ⟨f, m1, (fun i_ => [undef, undef, undef, undef, undef, undef, undef, undef, undef, undef, undef, undef, undef, undef, undef, undef, undef].getD i_ undef), (FM.le.refl _), HS, HR4, h, (by kernel_rfl)⟩ ?_
  clear h
  rintro n18 _ W21 ⟨f19, m24, j23, L20, HS22, HR25, h, rfl⟩ K16 hK17
  obtain _ | n18 := n18
  · exact nomatch h
  simp only [big_trim.l0] at h
  refine wp_seq_k (fun K26 hK27 => ?_)
  refine wp_seq_k (fun K28 hK29 => ?_)
  refine wp_region_lit ?_
  refine seqS4 (a' := ⟨#[.slice A2 m24.length c3, undef, .slice none 0 0, .slice A2 m24.length c3, .int .i64 (m24.length : Int), .bool (decide ((m24.length : Int) > 0)), .bool (decide ((m24.length : Int) > 0)), (j23 4), (j23 5), (j23 6), (j23 7), (j23 8), (j23 9), (j23 10), (j23 11), (j23 12), (j23 13), (j23 14), (j23 15), (j23 16), undef], []⟩) (by kernel_rfl) ?_
  have hq_ := ite_some h; clear h; rcases hq_ with ⟨c30, h⟩ | ⟨c30, h⟩
  · have c30 : (m24.length : Int) > 0 := c30
    refine seqRwI 5 (x := (decide ((m24.length : Int) > 0))) (v := true) (by kernel_rfl) (decide_eq_true c30) ?_
    refine seqRwI 6 (x := (decide ((m24.length : Int) > 0))) (v := true) (by kernel_rfl) (decide_eq_true c30) ?_
    have hq_ := guard_some h; clear h; obtain ⟨c31, h⟩ := hq_
    have c31 : 0 ≤ (w64 ((m24.length : Int) - 1)) := c31
    have hq_ := guard_some h; clear h; obtain ⟨c32, h⟩ := hq_
    have c32 : (w64 ((m24.length : Int) - 1)) < (m24.length : Int) := c32
    obtain ⟨b36, of37, cs33, rfl, hr34, hc35⟩ := HR25.at (i := w64 ((m24.length : Int) - 1)) c31 c32
    obtain rfl := hr34
    refine seqL4 (by kernel_rfl) ?_
    refine seqG (by kernel_rfl) (does_run (run_index (sz := 1) rfl Try.underlying51 (by kernel_rfl) (by kernel_rfl : _ = Value.slice (some ⟨b36, of37, none⟩) m24.length c3) (by kernel_rfl : _ = Value.int .i64 (w64 ((m24.length : Int) - 1))) c31 c32 W21) ?_)
    refine seqG (by kernel_rfl) (does_run (run_load rfl Try.underlying86 rfl (by kernel_rfl : _ = Value.pointer (some ⟨b36, of37 + (w64 ((m24.length : Int) - 1) : Int).toNat * 1, none⟩)) ((hc35 (FM.le.refl _) HS22) 0 (by decide))) ?_)
    refine seqS2 (a' := ⟨#[.slice (some ⟨b36, of37, none⟩) m24.length c3, undef, .slice none 0 0, .slice (some ⟨b36, of37, none⟩) m24.length c3, .int .i64 (m24.length : Int), .bool true, .bool true, .slice (some ⟨b36, of37, none⟩) m24.length c3, .slice (some ⟨b36, of37, none⟩) m24.length c3, .int .i64 (m24.length : Int), .int .i64 (w64 ((m24.length : Int) - 1)), .pointer (some ⟨b36, of37 + (w64 ((m24.length : Int) - 1) : Int).toNat * 1, none⟩), .int .u32 (rd m24 (w64 ((m24.length : Int) - 1))), .bool ((rd m24 (w64 ((m24.length : Int) - 1))) == 0), .bool ((rd m24 (w64 ((m24.length : Int) - 1))) == 0), (j23 12), (j23 13), (j23 14), (j23 15), (j23 16), undef], []⟩) (by kernel_rfl) ?_
    refine wpList_nil ?_
    refine hK29 _ _ ?_
    have hq_ := ite_some h; clear h; rcases hq_ with ⟨c39, h⟩ | ⟨c39, h⟩
    · have c39 : (rd m24 (w64 ((m24.length : Int) - 1))) = 0 := c39
      refine wpRwI 13 (x := ((rd m24 (w64 ((m24.length : Int) - 1))) == 0)) (v := true) (by kernel_rfl) (beq_iff_eq.mpr c39) ?_
      refine wpRwI 14 (x := ((rd m24 (w64 ((m24.length : Int) - 1))) == 0)) (v := true) (by kernel_rfl) (beq_iff_eq.mpr c39) ?_
      refine condT (by kernel_rfl) ?_
      refine wp_skip ?_
      refine hK27 _ _ ?_
      refine blockK (fun B40 hx41 hn42 hr43 ho44 hp45 => ?_)
      refine wp_region_lit ?_
      have hq_ := guard_some h; clear h; obtain ⟨c47, h⟩ := hq_
      have c47 : (w64 ((m24.length : Int) - 1)) ≤ (m24.length : Int) := c47
      refine seqL4 (by kernel_rfl) ?_
      refine seqK rfl (does_run (run_cutH (e := (tInt .u32)) (xs := m24) rfl Try.underlying51 (by kernel_rfl) (by kernel_rfl : _ = Value.slice (some ⟨b36, of37, none⟩) m24.length c3) (by kernel_rfl : _ = Value.int .i64 (w64 ((m24.length : Int) - 1))) c31 c47 HR25.le W21) ?_)
      refine seqS1 (a' := ⟨#[.slice (some ⟨b36, of37, none⟩) (m24.take (w64 ((m24.length : Int) - 1)).toNat).length c3, undef, .slice none 0 0, .slice (some ⟨b36, of37, none⟩) m24.length c3, .int .i64 (m24.length : Int), .bool true, .bool true, .slice (some ⟨b36, of37, none⟩) m24.length c3, .slice (some ⟨b36, of37, none⟩) m24.length c3, .int .i64 (m24.length : Int), .int .i64 (w64 ((m24.length : Int) - 1)), .pointer (some ⟨b36, of37 + (w64 ((m24.length : Int) - 1) : Int).toNat * 1, none⟩), .int .u32 (rd m24 (w64 ((m24.length : Int) - 1))), .bool true, .bool true, .slice (some ⟨b36, of37, none⟩) m24.length c3, .slice (some ⟨b36, of37, none⟩) m24.length c3, .int .i64 (m24.length : Int), .int .i64 (w64 ((m24.length : Int) - 1)), .slice (some ⟨b36, of37, none⟩) (m24.take (w64 ((m24.length : Int) - 1)).toNat).length c3, undef], []⟩) (by kernel_rfl) ?_
      refine wpList_nil ?_
      refine hn42 _ _ ?_
      refine hK17 n18 _ _ (Nat.lt_succ_self _) ?_
      exact ⟨f19, (m24.take (w64 ((m24.length : Int) - 1)).toNat), (fun i_ => [Value.slice (some ⟨b36, of37, none⟩) m24.length c3, Value.int .i64 (m24.length : Int), Value.bool true, Value.bool true, Value.slice (some ⟨b36, of37, none⟩) m24.length c3, Value.slice (some ⟨b36, of37, none⟩) m24.length c3, Value.int .i64 (m24.length : Int), Value.int .i64 (w64 ((m24.length : Int) - 1)), Value.pointer (some ⟨b36, of37 + (w64 ((m24.length : Int) - 1) : Int).toNat * 1, none⟩), Value.int .u32 (rd m24 (w64 ((m24.length : Int) - 1))), Value.bool true, Value.bool true, Value.slice (some ⟨b36, of37, none⟩) m24.length c3, Value.slice (some ⟨b36, of37, none⟩) m24.length c3, Value.int .i64 (m24.length : Int), Value.int .i64 (w64 ((m24.length : Int) - 1)), Value.slice (some ⟨b36, of37, none⟩) (m24.take (w64 ((m24.length : Int) - 1)).toNat).length c3].getD i_ undef), L20, HS22, (HR25.take _), h, (by kernel_rfl)⟩
    · have c39 : ¬ ((rd m24 (w64 ((m24.length : Int) - 1))) = 0) := c39
      refine wpRwI 13 (x := ((rd m24 (w64 ((m24.length : Int) - 1))) == 0)) (v := false) (by kernel_rfl) (beq_eq_false_iff_ne.mpr c39) ?_
      refine wpRwI 14 (x := ((rd m24 (w64 ((m24.length : Int) - 1))) == 0)) (v := false) (by kernel_rfl) (beq_eq_false_iff_ne.mpr c39) ?_
      refine condF (by kernel_rfl) ?_
      refine wp_exit ?_
      refine hx10 _ _ ?_
      exact J56 f19 m24 (fun i_ => [Value.slice (some ⟨b36, of37, none⟩) m24.length c3, Value.int .i64 (m24.length : Int), Value.bool true, Value.bool true, Value.slice (some ⟨b36, of37, none⟩) m24.length c3, Value.slice (some ⟨b36, of37, none⟩) m24.length c3, Value.int .i64 (m24.length : Int), Value.int .i64 (w64 ((m24.length : Int) - 1)), Value.pointer (some ⟨b36, of37 + (w64 ((m24.length : Int) - 1) : Int).toNat * 1, none⟩), Value.int .u32 (rd m24 (w64 ((m24.length : Int) - 1))), Value.bool false, Value.bool false, (j23 12), (j23 13), (j23 14), (j23 15), (j23 16)].getD i_ undef) W21 _ L20 h HS22 HR25 (by kernel_rfl)
  · have c30 : ¬ ((m24.length : Int) > 0) := c30
    refine seqRwI 5 (x := (decide ((m24.length : Int) > 0))) (v := false) (by kernel_rfl) (decide_eq_false c30) ?_
    refine seqRwI 6 (x := (decide ((m24.length : Int) > 0))) (v := false) (by kernel_rfl) (decide_eq_false c30) ?_
    refine seqS8 (a' := ⟨#[.slice A2 m24.length c3, undef, .slice none 0 0, .slice A2 m24.length c3, .int .i64 (m24.length : Int), .bool false, .bool false, undef, undef, undef, undef, undef, undef, undef, .bool false, (j23 12), (j23 13), (j23 14), (j23 15), (j23 16), undef], []⟩) (by kernel_rfl) ?_
    refine wpList_nil ?_
    refine hK29 _ _ ?_
    refine condF (by kernel_rfl) ?_
    refine wp_exit ?_
    refine hx10 _ _ ?_
    exact J56 f19 m24 (fun i_ => [Value.slice A2 m24.length c3, Value.int .i64 (m24.length : Int), Value.bool false, Value.bool false, undef, undef, undef, undef, undef, undef, undef, Value.bool false, (j23 12), (j23 13), (j23 14), (j23 15), (j23 16)].getD i_ undef) W21 _ L20 h HS22 HR25 (by kernel_rfl)

set_option maxRecDepth 100000 in
set_option maxHeartbeats 4000000 in
theorem big_made.calls (k : Nat) (A3 : Option Addr) (c4 : Nat) (neg1 : Bool) (m2 : List Int) {t w : World} {f : FM} {H : List Seg} (HS : St t w f (H)) (HR5 : SlR (tInt .u32) f A3 c4 m2) (r1 : S_Int) (h : big_made k neg1 m2 = some r1) :
    Calls Try.prog 38 #[.bool neg1, .slice A3 m2.length c4] w (fun e w' => ∃ (g : FM) (A32 : Option Addr) (c33 : Nat), e = .returned (Value.agg #[.bool r1.neg, .slice A32 r1.mag.length c33]) ∧ FM.le f g ∧ St t w' g (H) ∧ SlR (tInt .u32) g A32 c33 r1.mag) := by
  unfold big_made at h
  refine enter Try.func38 rfl (tm := #[.bool neg1, .slice A3 m2.length c4, undef, undef, undef, undef, undef, undef, undef, undef, undef, undef, undef, undef, undef]) (by kernel_rfl) ?_
  intro B hret hnor hnp
  refine wp_seq_k (fun K6 hK7 => ?_)
  refine wp_region_lit ?_
  refine seqK rfl (does_alloc (z := Value.agg #[.bool false, .slice none 0 0]) (cs := #[.bool false, .slice none 0 0]) rfl (by kernel_rfl) rfl HS ?_)
  intro b8 W9 HS10
  refine wpList_nil ?_
  refine hK7 _ _ ?_
  refine wp_seq_k (fun K12 hK13 => ?_)
  refine wp_region_lit ?_
  have hq_ := bind_some h; clear h; obtain ⟨vt14, hc15, h⟩ := hq_
  refine seqL1 (by kernel_rfl) ?_
  refine seqK rfl (does_call (f := 50) (args := #[.slice A3 m2.length c4]) (by kernel_rfl) (big_trim.calls k A3 c4 m2 HS10 HR5 vt14 hc15) ?_)
  rintro _ W18 ⟨f16, A20, c21, rfl, L17, HS19, HR22⟩
  refine ⟨_, rfl, ?_⟩
  refine seqS1 (a' := ⟨#[.bool neg1, .slice A20 vt14.length c21, undef, undef, .pointer (some ⟨b8, 0, none⟩), .slice A3 m2.length c4, .slice A20 vt14.length c21, undef, undef, undef, undef, undef, undef, undef, undef], []⟩) (by kernel_rfl) ?_
  refine wpList_nil ?_
  refine hK13 _ _ ?_
  refine wp_seq_k (fun K23 hK24 => ?_)
  refine wp_region_lit ?_
  refine seqS2 (a' := ⟨#[.bool neg1, .slice A20 vt14.length c21, undef, undef, .pointer (some ⟨b8, 0, none⟩), .slice A3 m2.length c4, .slice A20 vt14.length c21, .bool neg1, .bool neg1, undef, undef, undef, undef, undef, undef], []⟩) (by kernel_rfl) ?_
  have hq_ := ite_some h; clear h; rcases hq_ with ⟨c25, h⟩ | ⟨c25, h⟩
  · have c25 : neg1 = true := c25
    refine seqRwI 0 (x := neg1) (v := true) (by kernel_rfl) c25 ?_
    refine seqRwI 7 (x := neg1) (v := true) (by kernel_rfl) c25 ?_
    refine seqRwI 8 (x := neg1) (v := true) (by kernel_rfl) c25 ?_
    refine seqL6 (by kernel_rfl) ?_
    refine seqK rfl (does_store (n := 2) (vs := [.bool (decide ((vt14.length : Int) > 0)), .slice A20 vt14.length c21]) (cs' := #[.bool (decide ((vt14.length : Int) > 0)), .slice A20 vt14.length c21]) rfl (by kernel_rfl) (by kernel_rfl : _ = Value.pointer (some ⟨b8, 0, none⟩)) (by kernel_rfl : _ = Value.agg #[.bool (decide ((vt14.length : Int) > 0)), .slice A20 vt14.length c21]) rfl rfl (by intro u_ hu_; simp only [List.mem_cons, List.not_mem_nil, or_false] at hu_; rcases hu_ with rfl | rfl <;> rfl) HS19 (Nat.le_of_ble_eq_true rfl) (by kernel_rfl) ?_)
    intro W26 HS27
    refine wpList_nil ?_
    refine hK24 _ _ ?_
    refine wp_ret ?_
    refine hret _ _ ?_
    refine ends (v := Value.agg #[.bool (decide ((vt14.length : Int) > 0)), .slice A20 vt14.length c21]) (results1 (q1 := .cell 4 53) (by kernel_rfl) (resN (n := 2) (cs := [.bool (decide ((vt14.length : Int) > 0)), .slice A20 vt14.length c21]) (by kernel_rfl : _ = Value.pointer (some ⟨b8, 0, none⟩)) Try.underlying53 rfl (by kernel_rfl) rfl (HS27.cells 0 2 _ rfl))) (by kernel_rfl) ?_
    have HS30 := HS27.drop
    injection h with h
    subst h
    exact ⟨f16, A20, c21, rfl, L17, HS30, HR22⟩
  · have c25 : ¬ (neg1 = true) := c25
    refine seqRwI 0 (x := neg1) (v := false) (by kernel_rfl) (Bool.eq_false_iff.mpr c25) ?_
    refine seqRwI 7 (x := neg1) (v := false) (by kernel_rfl) (Bool.eq_false_iff.mpr c25) ?_
    refine seqRwI 8 (x := neg1) (v := false) (by kernel_rfl) (Bool.eq_false_iff.mpr c25) ?_
    refine seqL6 (by kernel_rfl) ?_
    refine seqK rfl (does_store (n := 2) (vs := [.bool false, .slice A20 vt14.length c21]) (cs' := #[.bool false, .slice A20 vt14.length c21]) rfl (by kernel_rfl) (by kernel_rfl : _ = Value.pointer (some ⟨b8, 0, none⟩)) (by kernel_rfl : _ = Value.agg #[.bool false, .slice A20 vt14.length c21]) rfl rfl (by intro u_ hu_; simp only [List.mem_cons, List.not_mem_nil, or_false] at hu_; rcases hu_ with rfl | rfl <;> rfl) HS19 (Nat.le_of_ble_eq_true rfl) (by kernel_rfl) ?_)
    intro W28 HS29
    refine wpList_nil ?_
    refine hK24 _ _ ?_
    refine wp_ret ?_
    refine hret _ _ ?_
    refine ends (v := Value.agg #[.bool false, .slice A20 vt14.length c21]) (results1 (q1 := .cell 4 53) (by kernel_rfl) (resN (n := 2) (cs := [.bool false, .slice A20 vt14.length c21]) (by kernel_rfl : _ = Value.pointer (some ⟨b8, 0, none⟩)) Try.underlying53 rfl (by kernel_rfl) rfl (HS29.cells 0 2 _ rfl))) (by kernel_rfl) ?_
    have HS31 := HS29.drop
    injection h with h
    subst h
    exact ⟨f16, A20, c21, rfl, L17, HS31, HR22⟩

set_option maxRecDepth 100000 in
set_option maxHeartbeats 4000000 in
theorem big_Of.calls (k : Nat)  (x1 : Int) {t w : World} {f : FM} {H : List Seg} (HS : St t w f (H)) (r1 : S_Int) (h : big_Of k x1 = some r1) :
    Calls Try.prog 21 #[.int .i64 x1] w (fun e w' => ∃ (g : FM) (A64 : Option Addr) (c65 : Nat), e = .returned (Value.agg #[.bool r1.neg, .slice A64 r1.mag.length c65]) ∧ FM.le f g ∧ St t w' g (H) ∧ SlR (tInt .u32) g A64 c65 r1.mag) := by
  unfold big_Of at h
  refine enter Try.func21 rfl (tm := #[.int .i64 x1, undef, undef, undef, undef, undef, undef, undef, undef, undef, undef, undef, undef, undef, undef, undef, undef, undef, undef]) (by kernel_rfl) ?_
  intro B hret hnor hnp
  refine wp_seq_k (fun K2 hK3 => ?_)
  refine wp_region_lit ?_
  refine seqK rfl (does_alloc (z := Value.agg #[.bool false, .slice none 0 0]) (cs := #[.bool false, .slice none 0 0]) rfl (by kernel_rfl) rfl HS ?_)
  intro b4 W5 HS6
  refine wpList_nil ?_
  refine hK3 _ _ ?_
  refine wp_seq_k (fun K8 hK9 => ?_)
  refine wp_region_lit ?_
  refine seqS3 (a' := ⟨#[.int .i64 x1, undef, .pointer (some ⟨b4, 0, none⟩), .int .u64 (u64 (x1)), .int .i64 x1, .int .u64 (u64 (x1)), undef, undef, undef, undef, undef, undef, undef, undef, undef, undef, undef, undef, undef], []⟩) (by kernel_rfl) ?_
  refine wpList_nil ?_
  refine hK9 _ _ ?_
  refine wp_seq_k (fun K10 hK11 => ?_)
  refine wp_seq_k (fun K12 hK13 => ?_)
  refine wp_region_lit ?_
  refine seqS2 (a' := ⟨#[.int .i64 x1, undef, .pointer (some ⟨b4, 0, none⟩), .int .u64 (u64 (x1)), .int .i64 x1, .int .u64 (u64 (x1)), .int .i64 x1, .bool (decide (x1 < 0)), undef, undef, undef, undef, undef, undef, undef, undef, undef, undef, undef], []⟩) (by kernel_rfl) ?_
  refine wpList_nil ?_
  refine hK13 _ _ ?_
  have hq_ := ite_some h; clear h; rcases hq_ with ⟨c15, h⟩ | ⟨c15, h⟩
  · have c15 : x1 < 0 := c15
    refine wpRwI 7 (x := (decide (x1 < 0))) (v := true) (by kernel_rfl) (decide_eq_true c15) ?_
    refine condT (by kernel_rfl) ?_
    refine wp_region_lit ?_
    refine seqS3 (a' := ⟨#[.int .i64 x1, undef, .pointer (some ⟨b4, 0, none⟩), .int .u64 (u64 (0 - (u64 (x1)))), .int .i64 x1, .int .u64 (u64 (x1)), .int .i64 x1, .bool true, .int .u64 (u64 (x1)), .int .u64 (u64 (0 - (u64 (x1)))), undef, undef, undef, undef, undef, undef, undef, undef, undef], []⟩) (by kernel_rfl) ?_
    refine wpList_nil ?_
    refine hK11 _ _ ?_
    refine wp_seq_k (fun K16 hK17 => ?_)
    refine wp_region_lit ?_
    refine seqL7 (by kernel_rfl) ?_
    refine seqK rfl (does_lit (e := (tInt .u32)) (E := 86) (vs := #[(0, Value.int .u32 (u32 (u64 (0 - (u64 (x1)))))), (1, Value.int .u32 (u32 (shr (u64 (0 - (u64 (x1)))) 32)))]) (cs := #[.int .u32 (u32 (u64 (0 - (u64 (x1))))), .int .u32 (u32 (shr (u64 (0 - (u64 (x1)))) 32))]) (xs := ([u32 (u64 (0 - (u64 (x1)))), u32 (shr (u64 (0 - (u64 (x1)))) 32)] : List Int)) rfl Try.underlying51 (by kernel_rfl) (by kernel_rfl) ⟨[.int .u32 (u32 (u64 (0 - (u64 (x1)))))], _, rfl, rfl, ⟨[.int .u32 (u32 (shr (u64 (0 - (u64 (x1)))) 32))], _, rfl, rfl, rfl⟩⟩ rfl HS6 ?_ (by decide))
    intro b18 W19 s20 HS21 _ HO22
    obtain ⟨f24, L25, HS26, HR27⟩ := HO22.freeze HS21
    have hq_ := bind_some h; clear h; obtain ⟨vt28, hc29, h⟩ := hq_
    refine seqK rfl (does_call (f := 38) (args := #[.bool (decide (x1 < 0)), .slice (some ⟨b18, 0, none⟩) ([u32 (u64 (0 - (u64 (x1)))), u32 (shr (u64 (0 - (u64 (x1)))) 32)] : List Int).length 2]) (by kernel_rfl) (big_made.calls k (some ⟨b18, 0, none⟩) 2 (decide (x1 < 0)) ([u32 (u64 (0 - (u64 (x1)))), u32 (shr (u64 (0 - (u64 (x1)))) 32)] : List Int) HS26 HR27 vt28 hc29) ?_)
    rintro _ W32 ⟨f30, A34, c35, rfl, L31, HS33, HR36⟩
    refine ⟨_, rfl, ?_⟩
    refine seqK rfl (does_store (n := 2) (vs := [.bool vt28.neg, .slice A34 vt28.mag.length c35]) (cs' := #[.bool vt28.neg, .slice A34 vt28.mag.length c35]) rfl (by kernel_rfl) (by kernel_rfl : _ = Value.pointer (some ⟨b4, 0, none⟩)) (by kernel_rfl : _ = Value.agg #[.bool vt28.neg, .slice A34 vt28.mag.length c35]) rfl rfl (by intro u_ hu_; simp only [List.mem_cons, List.not_mem_nil, or_false] at hu_; rcases hu_ with rfl | rfl <;> rfl) HS33 (Nat.le_of_ble_eq_true rfl) (by kernel_rfl) ?_)
    intro W37 HS38
    refine wpList_nil ?_
    refine hK17 _ _ ?_
    refine wp_ret ?_
    refine hret _ _ ?_
    refine ends (v := Value.agg #[.bool vt28.neg, .slice A34 vt28.mag.length c35]) (results1 (q1 := .cell 2 53) (by kernel_rfl) (resN (n := 2) (cs := [.bool vt28.neg, .slice A34 vt28.mag.length c35]) (by kernel_rfl : _ = Value.pointer (some ⟨b4, 0, none⟩)) Try.underlying53 rfl (by kernel_rfl) rfl (HS38.cells 0 2 _ rfl))) (by kernel_rfl) ?_
    have HS62 := HS38.drop
    injection h with h
    subst h
    exact ⟨f30, A34, c35, rfl, (L25.trans L31), HS62, HR36⟩
  · have c15 : ¬ (x1 < 0) := c15
    refine wpRwI 7 (x := (decide (x1 < 0))) (v := false) (by kernel_rfl) (decide_eq_false c15) ?_
    refine condF (by kernel_rfl) ?_
    refine wp_skip ?_
    refine hK11 _ _ ?_
    refine wp_seq_k (fun K39 hK40 => ?_)
    refine wp_region_lit ?_
    refine seqL7 (by kernel_rfl) ?_
    refine seqK rfl (does_lit (e := (tInt .u32)) (E := 86) (vs := #[(0, Value.int .u32 (u32 (u64 (x1)))), (1, Value.int .u32 (u32 (shr (u64 (x1)) 32)))]) (cs := #[.int .u32 (u32 (u64 (x1))), .int .u32 (u32 (shr (u64 (x1)) 32))]) (xs := ([u32 (u64 (x1)), u32 (shr (u64 (x1)) 32)] : List Int)) rfl Try.underlying51 (by kernel_rfl) (by kernel_rfl) ⟨[.int .u32 (u32 (u64 (x1)))], _, rfl, rfl, ⟨[.int .u32 (u32 (shr (u64 (x1)) 32))], _, rfl, rfl, rfl⟩⟩ rfl HS6 ?_ (by decide))
    intro b41 W42 s43 HS44 _ HO45
    obtain ⟨f47, L48, HS49, HR50⟩ := HO45.freeze HS44
    have hq_ := bind_some h; clear h; obtain ⟨vt51, hc52, h⟩ := hq_
    refine seqK rfl (does_call (f := 38) (args := #[.bool (decide (x1 < 0)), .slice (some ⟨b41, 0, none⟩) ([u32 (u64 (x1)), u32 (shr (u64 (x1)) 32)] : List Int).length 2]) (by kernel_rfl) (big_made.calls k (some ⟨b41, 0, none⟩) 2 (decide (x1 < 0)) ([u32 (u64 (x1)), u32 (shr (u64 (x1)) 32)] : List Int) HS49 HR50 vt51 hc52) ?_)
    rintro _ W55 ⟨f53, A57, c58, rfl, L54, HS56, HR59⟩
    refine ⟨_, rfl, ?_⟩
    refine seqK rfl (does_store (n := 2) (vs := [.bool vt51.neg, .slice A57 vt51.mag.length c58]) (cs' := #[.bool vt51.neg, .slice A57 vt51.mag.length c58]) rfl (by kernel_rfl) (by kernel_rfl : _ = Value.pointer (some ⟨b4, 0, none⟩)) (by kernel_rfl : _ = Value.agg #[.bool vt51.neg, .slice A57 vt51.mag.length c58]) rfl rfl (by intro u_ hu_; simp only [List.mem_cons, List.not_mem_nil, or_false] at hu_; rcases hu_ with rfl | rfl <;> rfl) HS56 (Nat.le_of_ble_eq_true rfl) (by kernel_rfl) ?_)
    intro W60 HS61
    refine wpList_nil ?_
    refine hK40 _ _ ?_
    refine wp_ret ?_
    refine hret _ _ ?_
    refine ends (v := Value.agg #[.bool vt51.neg, .slice A57 vt51.mag.length c58]) (results1 (q1 := .cell 2 53) (by kernel_rfl) (resN (n := 2) (cs := [.bool vt51.neg, .slice A57 vt51.mag.length c58]) (by kernel_rfl : _ = Value.pointer (some ⟨b4, 0, none⟩)) Try.underlying53 rfl (by kernel_rfl) rfl (HS61.cells 0 2 _ rfl))) (by kernel_rfl) ?_
    have HS63 := HS61.drop
    injection h with h
    subst h
    exact ⟨f53, A57, c58, rfl, (L48.trans L54), HS63, HR59⟩

set_option maxRecDepth 100000 in
set_option maxHeartbeats 4000000 in
theorem bits_Len32.calls (k : Nat)  (x1 : Int) {t w : World} {f : FM} {H : List Seg} (HS : St t w f (H)) (r1 : Int) (h : bits_Len32 k x1 = some r1) :
    Calls Try.prog 58 #[.int .u32 x1] w (fun e w' => ∃ (g : FM), e = .returned (Value.int .i64 r1) ∧ FM.le f g ∧ St t w' g (H)) := by
  unfold bits_Len32 at h
  refine enter Try.func58 rfl (tm := #[.int .u32 x1, undef, undef, undef, undef, undef, undef, undef, undef, undef, undef, undef, undef, undef, undef, undef, undef, undef, undef]) (by kernel_rfl) ?_
  intro B hret hnor hnp
  refine wp_seq_k (fun K2 hK3 => ?_)
  refine wp_region_lit ?_
  refine seqS1 (a' := ⟨#[.int .u32 x1, undef, .int .i64 0, undef, undef, undef, undef, undef, undef, undef, undef, undef, undef, undef, undef, undef, undef, undef, undef], []⟩) (by kernel_rfl) ?_
  refine wpList_nil ?_
  refine hK3 _ _ ?_
  refine wp_seq_k (fun K4 hK5 => ?_)
  refine wp_seq_k (fun K6 hK7 => ?_)
  refine wp_region_lit ?_
  refine seqS2 (a' := ⟨#[.int .u32 x1, undef, .int .i64 0, .int .u32 x1, .bool (decide (x1 ≥ 65536)), undef, undef, undef, undef, undef, undef, undef, undef, undef, undef, undef, undef, undef, undef], []⟩) (by kernel_rfl) ?_
  refine wpList_nil ?_
  refine hK7 _ _ ?_
  have hq_ := bind_some h; clear h; obtain ⟨v8, hv19, h⟩ := hq_
  have J20 : ∀ (f12 : FM) (x17 : Int) (n18 : Int) (j16 : Nat → Value) (W14 : World) (a_ : Act), FM.le f f12 → some ((x17, n18)) = some v8 → St t W14 f12 (H) → a_ = ⟨#[.int .u32 x17, undef, .int .i64 n18, .int .u32 x1, (j16 0), (j16 1), (j16 2), undef, undef, undef, undef, undef, undef, undef, undef, undef, undef, undef, undef], []⟩ → K4 a_ W14 := by
    intro f12 x17 n18 j16 W14 a_ L13 hj21 HS15  hfr_; subst hfr_
    injection hj21 with hj21; subst hj21; try dsimp only at h
    refine hK5 _ _ ?_
    refine wp_seq_k (fun K22 hK23 => ?_)
    refine wp_seq_k (fun K24 hK25 => ?_)
    refine wp_region_lit ?_
    refine seqS2 (a' := ⟨#[.int .u32 x17, undef, .int .i64 n18, .int .u32 x1, (j16 0), (j16 1), (j16 2), .int .u32 x17, .bool (decide (x17 ≥ 256)), undef, undef, undef, undef, undef, undef, undef, undef, undef, undef], []⟩) (by kernel_rfl) ?_
    refine wpList_nil ?_
    refine hK25 _ _ ?_
    have hq_ := ite_some h; clear h; rcases hq_ with ⟨c27, h⟩ | ⟨c27, h⟩
    · have c27 : x17 ≥ 256 := c27
      refine wpRwI 8 (x := (decide (x17 ≥ 256))) (v := true) (by kernel_rfl) (decide_eq_true c27) ?_
      refine condT (by kernel_rfl) ?_
      refine wp_seq_k (fun K28 hK29 => ?_)
      refine wp_region_lit ?_
      refine seqS3 (a' := ⟨#[.int .u32 (shr x17 8), undef, .int .i64 n18, .int .u32 x1, (j16 0), (j16 1), (j16 2), .int .u32 x17, .bool true, .int .u32 x17, .int .u32 (shr x17 8), undef, undef, undef, undef, undef, undef, undef, undef], []⟩) (by kernel_rfl) ?_
      refine wpList_nil ?_
      refine hK29 _ _ ?_
      refine wp_region_lit ?_
      refine seqS3 (a' := ⟨#[.int .u32 (shr x17 8), undef, .int .i64 (w64 (n18 + 8)), .int .u32 x1, (j16 0), (j16 1), (j16 2), .int .u32 x17, .bool true, .int .u32 x17, .int .u32 (shr x17 8), .int .i64 n18, .int .i64 (w64 (n18 + 8)), undef, undef, undef, undef, undef, undef], []⟩) (by kernel_rfl) ?_
      refine wpList_nil ?_
      refine hK23 _ _ ?_
      refine wp_seq_k (fun K30 hK31 => ?_)
      refine wp_region_lit ?_
      have hq_ := guard_some h; clear h; obtain ⟨c32, h⟩ := hq_
      have c32 : 0 ≤ (u8 (shr x17 8)) := c32
      have hq_ := guard_some h; clear h; obtain ⟨c33, h⟩ := hq_
      have c33 : (u8 (shr x17 8)) < (str0.size : Int) := c33
      refine seqL3 (by kernel_rfl) ?_
      refine seqK rfl (does_run (run_byte rfl Try.underlying9 (by kernel_rfl : _ = Value.string str0) (by kernel_rfl : _ = Value.int .u8 (u8 (shr x17 8))) c32 c33 W14) ?_)
      refine seqS3 (a' := ⟨#[.int .u32 (shr x17 8), undef, .int .i64 (w64 ((w64 (n18 + 8)) + (w64 ((bt str0 (u8 (shr x17 8))))))), .int .u32 x1, (j16 0), (j16 1), (j16 2), .int .u32 x17, .bool true, .int .u32 x17, .int .u32 (shr x17 8), .int .i64 n18, .int .i64 (w64 (n18 + 8)), .int .i64 (w64 (n18 + 8)), .int .u32 (shr x17 8), .int .u8 (u8 (shr x17 8)), .int .u8 (bt str0 (u8 (shr x17 8))), .int .i64 (w64 ((bt str0 (u8 (shr x17 8))))), .int .i64 (w64 ((w64 (n18 + 8)) + (w64 ((bt str0 (u8 (shr x17 8)))))))], []⟩) (by kernel_rfl) ?_
      refine wpList_nil ?_
      refine hK31 _ _ ?_
      refine wp_ret ?_
      refine hret _ _ ?_
      refine ends_still (v := Value.int .i64 (w64 ((w64 (n18 + 8)) + (w64 ((bt str0 (u8 (shr x17 8)))))))) (by kernel_rfl) (by kernel_rfl) ?_
      injection h with h
      subst h
      exact ⟨f12, rfl, L13, HS15⟩
    · have c27 : ¬ (x17 ≥ 256) := c27
      refine wpRwI 8 (x := (decide (x17 ≥ 256))) (v := false) (by kernel_rfl) (decide_eq_false c27) ?_
      refine condF (by kernel_rfl) ?_
      refine wp_skip ?_
      refine hK23 _ _ ?_
      refine wp_seq_k (fun K34 hK35 => ?_)
      refine wp_region_lit ?_
      have hq_ := guard_some h; clear h; obtain ⟨c36, h⟩ := hq_
      have c36 : 0 ≤ (u8 (x17)) := c36
      have hq_ := guard_some h; clear h; obtain ⟨c37, h⟩ := hq_
      have c37 : (u8 (x17)) < (str0.size : Int) := c37
      refine seqL3 (by kernel_rfl) ?_
      refine seqK rfl (does_run (run_byte rfl Try.underlying9 (by kernel_rfl : _ = Value.string str0) (by kernel_rfl : _ = Value.int .u8 (u8 (x17))) c36 c37 W14) ?_)
      refine seqS3 (a' := ⟨#[.int .u32 x17, undef, .int .i64 (w64 (n18 + (w64 ((bt str0 (u8 (x17))))))), .int .u32 x1, (j16 0), (j16 1), (j16 2), .int .u32 x17, .bool false, undef, undef, undef, undef, .int .i64 n18, .int .u32 x17, .int .u8 (u8 (x17)), .int .u8 (bt str0 (u8 (x17))), .int .i64 (w64 ((bt str0 (u8 (x17))))), .int .i64 (w64 (n18 + (w64 ((bt str0 (u8 (x17)))))))], []⟩) (by kernel_rfl) ?_
      refine wpList_nil ?_
      refine hK35 _ _ ?_
      refine wp_ret ?_
      refine hret _ _ ?_
      refine ends_still (v := Value.int .i64 (w64 (n18 + (w64 ((bt str0 (u8 (x17)))))))) (by kernel_rfl) (by kernel_rfl) ?_
      injection h with h
      subst h
      exact ⟨f12, rfl, L13, HS15⟩
  clear h; have h := hv19; clear hv19
  have hq_ := ite_some h; clear h; rcases hq_ with ⟨c9, h⟩ | ⟨c9, h⟩
  · have c9 : x1 ≥ 65536 := c9
    refine wpRwI 4 (x := (decide (x1 ≥ 65536))) (v := true) (by kernel_rfl) (decide_eq_true c9) ?_
    refine condT (by kernel_rfl) ?_
    refine wp_seq_k (fun K10 hK11 => ?_)
    refine wp_region_lit ?_
    refine seqS3 (a' := ⟨#[.int .u32 (shr x1 16), undef, .int .i64 0, .int .u32 x1, .bool true, .int .u32 x1, .int .u32 (shr x1 16), undef, undef, undef, undef, undef, undef, undef, undef, undef, undef, undef, undef], []⟩) (by kernel_rfl) ?_
    refine wpList_nil ?_
    refine hK11 _ _ ?_
    refine wp_region_lit ?_
    refine seqS1 (a' := ⟨#[.int .u32 (shr x1 16), undef, .int .i64 16, .int .u32 x1, .bool true, .int .u32 x1, .int .u32 (shr x1 16), undef, undef, undef, undef, undef, undef, undef, undef, undef, undef, undef, undef], []⟩) (by kernel_rfl) ?_
    refine wpList_nil ?_
    exact J20 f (shr x1 16) 16 (fun i_ => [Value.bool true, Value.int .u32 x1, Value.int .u32 (shr x1 16)].getD i_ undef) w _ (FM.le.refl _) h HS (by kernel_rfl)
  · have c9 : ¬ (x1 ≥ 65536) := c9
    refine wpRwI 4 (x := (decide (x1 ≥ 65536))) (v := false) (by kernel_rfl) (decide_eq_false c9) ?_
    refine condF (by kernel_rfl) ?_
    refine wp_skip ?_
    exact J20 f x1 0 (fun i_ => [Value.bool false, undef, undef].getD i_ undef) w _ (FM.le.refl _) h HS (by kernel_rfl)

set_option maxRecDepth 100000 in
set_option maxHeartbeats 4000000 in
theorem big_Bits.calls (k : Nat) (A2 : Option Addr) (c3 : Nat) (a1 : S_Int) {t w : World} {f : FM} {H : List Seg} (HS : St t w f (H)) (HR4 : SlR (tInt .u32) f A2 c3 a1.mag) (r1 : Int) (h : big_Bits k a1 = some r1) :
    Calls Try.prog 48 #[.agg #[.bool a1.neg, .slice A2 a1.mag.length c3]] w (fun e w' => ∃ (g : FM), e = .returned (Value.int .i64 r1) ∧ FM.le f g ∧ St t w' g (H)) := by
  unfold big_Bits at h
  refine enter Try.func48 rfl (tm := #[.agg #[.bool a1.neg, .slice A2 a1.mag.length c3], undef, undef, undef, undef, undef, undef, undef, undef, undef, undef, undef, undef, undef, undef, undef, undef, undef, undef, undef, undef, undef]) (by kernel_rfl) ?_
  intro B hret hnor hnp
  refine wp_seq_k (fun K5 hK6 => ?_)
  refine wp_region_lit ?_
  refine seqK rfl (does_box (cs := #[.bool a1.neg, .slice A2 a1.mag.length c3]) rfl (by kernel_rfl : _ = Value.agg #[.bool a1.neg, .slice A2 a1.mag.length c3]) rfl HS ?_)
  intro b7 W8 HS9
  refine seqS1 (a' := ⟨#[.agg #[.bool a1.neg, .slice A2 a1.mag.length c3], .pointer (some ⟨b7, 0, none⟩), .int .i64 0, undef, undef, undef, undef, undef, undef, undef, undef, undef, undef, undef, undef, undef, undef, undef, undef, undef, undef, undef], []⟩) (by kernel_rfl) ?_
  refine wpList_nil ?_
  refine hK6 _ _ ?_
  refine wp_seq_k (fun K11 hK12 => ?_)
  refine wp_seq_k (fun K13 hK14 => ?_)
  refine wp_region_lit ?_
  refine seqL1 (by kernel_rfl) ?_
  refine seqK rfl (does_run (run_load rfl Try.underlying51 rfl (by kernel_rfl : _ = Value.pointer (some ⟨b7, 1, none⟩)) (HS9.cell 1)) ?_)
  refine seqS2 (a' := ⟨#[.agg #[.bool a1.neg, .slice A2 a1.mag.length c3], .pointer (some ⟨b7, 0, none⟩), .int .i64 0, .pointer (some ⟨b7, 1, none⟩), .slice A2 a1.mag.length c3, .int .i64 (a1.mag.length : Int), .bool ((a1.mag.length : Int) == 0), undef, undef, undef, undef, undef, undef, undef, undef, undef, undef, undef, undef, undef, undef, undef], []⟩) (by kernel_rfl) ?_
  refine wpList_nil ?_
  refine hK14 _ _ ?_
  have hq_ := ite_some h; clear h; rcases hq_ with ⟨c16, h⟩ | ⟨c16, h⟩
  · have c16 : (a1.mag.length : Int) = 0 := c16
    refine wpRwI 6 (x := ((a1.mag.length : Int) == 0)) (v := true) (by kernel_rfl) (beq_iff_eq.mpr c16) ?_
    refine condT (by kernel_rfl) ?_
    refine wp_seq_k (fun K17 hK18 => ?_)
    refine wp_region_lit ?_
    refine seqS1 (a' := ⟨#[.agg #[.bool a1.neg, .slice A2 a1.mag.length c3], .pointer (some ⟨b7, 0, none⟩), .int .i64 0, .pointer (some ⟨b7, 1, none⟩), .slice A2 a1.mag.length c3, .int .i64 (a1.mag.length : Int), .bool true, undef, undef, undef, undef, undef, undef, undef, undef, undef, undef, undef, undef, undef, undef, undef], []⟩) (by kernel_rfl) ?_
    refine wpList_nil ?_
    refine hK18 _ _ ?_
    refine wp_ret ?_
    refine hret _ _ ?_
    refine ends_still (v := Value.int .i64 0) (by kernel_rfl) (by kernel_rfl) ?_
    have HS36 := HS9.drop
    injection h with h
    subst h
    exact ⟨f, rfl, FM.le.refl _, HS36⟩
  · have c16 : ¬ ((a1.mag.length : Int) = 0) := c16
    refine wpRwI 6 (x := ((a1.mag.length : Int) == 0)) (v := false) (by kernel_rfl) (beq_eq_false_iff_ne.mpr c16) ?_
    refine condF (by kernel_rfl) ?_
    refine wp_skip ?_
    refine hK12 _ _ ?_
    refine wp_seq_k (fun K19 hK20 => ?_)
    refine heldG (S := Sg t f ([(b7, .cells #[.bool a1.neg, .slice A2 a1.mag.length c3] 53 (0, 0))] :: H) []) (n := 16) (by kernel_rfl) rfl HS9 ?_
    intro W21 HS22
    refine takeG [0] (n := 16) (fuel := 15) (l' := #[true, false, false, false, false, false, false, false, false, false, false, false, false, false, false, false]) (a' := ⟨#[.agg #[.bool a1.neg, .slice A2 a1.mag.length c3], .pointer (some ⟨b7, 0, none⟩), .int .i64 0, .pointer (some ⟨b7, 1, none⟩), .slice A2 a1.mag.length c3, .int .i64 (a1.mag.length : Int), .bool false, .pointer (some ⟨b7, 1, none⟩), undef, undef, undef, undef, undef, undef, undef, undef, undef, undef, undef, undef, undef, undef], []⟩) rfl (by kernel_rfl) (by kernel_rfl) (by kernel_rfl) hnp (Sg.g0 (Sx.of [] (FM.le.refl _) HS22)) ?_
    refine takeGQ 1 [] rfl (by kernel_rfl) (by kernel_rfl) (by kernel_rfl) (by kernel_rfl) (by kernel_rfl) (by kernel_rfl) hnp (Sg.g0 (Sx.of [] (FM.le.refl _) HS22)) (fun w_ hw_ => by obtain ⟨g_, hl_, hS_⟩ := hw_.st; exact run_load rfl Try.underlying51 rfl (by kernel_rfl : _ = Value.pointer (some ⟨b7, 1, none⟩)) (hS_.cell 1)) ?_
    refine takeG [2, 3, 4, 5] (n := 14) (fuel := 10) (l' := #[true, true, true, true, true, true, false, false, false, false, false, false, false, false, false, false]) (a' := ⟨#[.agg #[.bool a1.neg, .slice A2 a1.mag.length c3], .pointer (some ⟨b7, 0, none⟩), .int .i64 0, .pointer (some ⟨b7, 1, none⟩), .slice A2 a1.mag.length c3, .int .i64 (a1.mag.length : Int), .bool false, .pointer (some ⟨b7, 1, none⟩), .slice A2 a1.mag.length c3, .int .i64 (a1.mag.length : Int), .int .i64 (w64 ((a1.mag.length : Int) - 1)), .int .i64 (w64 (32 * (w64 ((a1.mag.length : Int) - 1)))), .pointer (some ⟨b7, 1, none⟩), undef, undef, undef, undef, undef, undef, undef, undef, undef], []⟩) rfl (by kernel_rfl) (by kernel_rfl) (by kernel_rfl) hnp (Sg.g0 (Sx.of [] (FM.le.refl _) HS22)) ?_
    refine takeGQ 6 [] rfl (by kernel_rfl) (by kernel_rfl) (by kernel_rfl) (by kernel_rfl) (by kernel_rfl) (by kernel_rfl) hnp (Sg.g0 (Sx.of [] (FM.le.refl _) HS22)) (fun w_ hw_ => by obtain ⟨g_, hl_, hS_⟩ := hw_.st; exact run_load rfl Try.underlying51 rfl (by kernel_rfl : _ = Value.pointer (some ⟨b7, 1, none⟩)) (hS_.cell 1)) ?_
    refine takeG [7] (n := 9) (fuel := 8) (l' := #[true, true, true, true, true, true, true, true, false, false, false, false, false, false, false, false]) (a' := ⟨#[.agg #[.bool a1.neg, .slice A2 a1.mag.length c3], .pointer (some ⟨b7, 0, none⟩), .int .i64 0, .pointer (some ⟨b7, 1, none⟩), .slice A2 a1.mag.length c3, .int .i64 (a1.mag.length : Int), .bool false, .pointer (some ⟨b7, 1, none⟩), .slice A2 a1.mag.length c3, .int .i64 (a1.mag.length : Int), .int .i64 (w64 ((a1.mag.length : Int) - 1)), .int .i64 (w64 (32 * (w64 ((a1.mag.length : Int) - 1)))), .pointer (some ⟨b7, 1, none⟩), .slice A2 a1.mag.length c3, .pointer (some ⟨b7, 1, none⟩), undef, undef, undef, undef, undef, undef, undef], []⟩) rfl (by kernel_rfl) (by kernel_rfl) (by kernel_rfl) hnp (Sg.g0 (Sx.of [] (FM.le.refl _) HS22)) ?_
    refine takeGQ 8 [] rfl (by kernel_rfl) (by kernel_rfl) (by kernel_rfl) (by kernel_rfl) (by kernel_rfl) (by kernel_rfl) hnp (Sg.g0 (Sx.of [] (FM.le.refl _) HS22)) (fun w_ hw_ => by obtain ⟨g_, hl_, hS_⟩ := hw_.st; exact run_load rfl Try.underlying51 rfl (by kernel_rfl : _ = Value.pointer (some ⟨b7, 1, none⟩)) (hS_.cell 1)) ?_
    have hq_ := guard_some h; clear h; obtain ⟨c23, h⟩ := hq_
    have c23 : 0 ≤ (w64 ((a1.mag.length : Int) - 1)) := c23
    have hq_ := guard_some h; clear h; obtain ⟨c24, h⟩ := hq_
    have c24 : (w64 ((a1.mag.length : Int) - 1)) < (a1.mag.length : Int) := c24
    obtain ⟨b28, of29, cs25, rfl, hr26, hc27⟩ := HR4.at (i := w64 ((a1.mag.length : Int) - 1)) c23 c24
    obtain rfl := hr26
    refine takeG [9, 10] (n := 7) (fuel := 5) (l' := #[true, true, true, true, true, true, true, true, true, true, true, false, false, false, false, false]) (a' := ⟨#[.agg #[.bool a1.neg, .slice (some ⟨b28, of29, none⟩) a1.mag.length c3], .pointer (some ⟨b7, 0, none⟩), .int .i64 0, .pointer (some ⟨b7, 1, none⟩), .slice (some ⟨b28, of29, none⟩) a1.mag.length c3, .int .i64 (a1.mag.length : Int), .bool false, .pointer (some ⟨b7, 1, none⟩), .slice (some ⟨b28, of29, none⟩) a1.mag.length c3, .int .i64 (a1.mag.length : Int), .int .i64 (w64 ((a1.mag.length : Int) - 1)), .int .i64 (w64 (32 * (w64 ((a1.mag.length : Int) - 1)))), .pointer (some ⟨b7, 1, none⟩), .slice (some ⟨b28, of29, none⟩) a1.mag.length c3, .pointer (some ⟨b7, 1, none⟩), .slice (some ⟨b28, of29, none⟩) a1.mag.length c3, .int .i64 (a1.mag.length : Int), .int .i64 (w64 ((a1.mag.length : Int) - 1)), undef, undef, undef, undef], []⟩) rfl (by kernel_rfl) (by kernel_rfl) (by kernel_rfl) hnp (Sg.g0 (Sx.of [] (FM.le.refl _) HS22)) ?_
    refine takeGQ 11 [] rfl (by kernel_rfl) (by kernel_rfl) (by kernel_rfl) (by kernel_rfl) (by kernel_rfl) (by kernel_rfl) hnp (Sg.g0 (Sx.of [] (FM.le.refl _) HS22)) (fun w_ hw_ => by obtain ⟨g_, hl_, hS_⟩ := hw_.st; exact run_index (sz := 1) rfl Try.underlying51 (by kernel_rfl) (by kernel_rfl : _ = Value.slice (some ⟨b28, of29, none⟩) a1.mag.length c3) (by kernel_rfl : _ = Value.int .i64 (w64 ((a1.mag.length : Int) - 1))) c23 c24 w_) ?_
    refine takeGQ 12 [] rfl (by kernel_rfl) (by kernel_rfl) (by kernel_rfl) (by kernel_rfl) (by kernel_rfl) (by kernel_rfl) hnp (Sg.g0 (Sx.of [] (FM.le.refl _) HS22)) (fun w_ hw_ => by obtain ⟨g_, hl_, hS_⟩ := hw_.st; exact run_load rfl Try.underlying86 rfl (by kernel_rfl : _ = Value.pointer (some ⟨b28, of29 + (w64 ((a1.mag.length : Int) - 1) : Int).toNat * 1, none⟩)) ((hc27 hl_ hS_) 0 (by decide))) ?_
    have hq_ := bind_some h; clear h; obtain ⟨vt30, hc31, h⟩ := hq_
    refine takeGE 13 (by kernel_rfl) rfl (by kernel_rfl) (does_call (f := 58) (args := #[.int .u32 (rd a1.mag (w64 ((a1.mag.length : Int) - 1)))]) (by kernel_rfl) (bits_Len32.calls k (rd a1.mag (w64 ((a1.mag.length : Int) - 1))) HS22 vt30 hc31) ?_)
    rintro _ W34 ⟨f32, rfl, L33, HS35⟩
    refine ⟨_, rfl, ?_⟩
    refine ⟨(Sg.g0 (Sx.of [] L33 HS35)), ?_⟩
    refine takeG [14, 15] (n := 2) (fuel := 0) (l' := #[true, true, true, true, true, true, true, true, true, true, true, true, true, true, true, true]) (a' := ⟨#[.agg #[.bool a1.neg, .slice (some ⟨b28, of29, none⟩) a1.mag.length c3], .pointer (some ⟨b7, 0, none⟩), .int .i64 (w64 ((w64 (32 * (w64 ((a1.mag.length : Int) - 1)))) + vt30)), .pointer (some ⟨b7, 1, none⟩), .slice (some ⟨b28, of29, none⟩) a1.mag.length c3, .int .i64 (a1.mag.length : Int), .bool false, .pointer (some ⟨b7, 1, none⟩), .slice (some ⟨b28, of29, none⟩) a1.mag.length c3, .int .i64 (a1.mag.length : Int), .int .i64 (w64 ((a1.mag.length : Int) - 1)), .int .i64 (w64 (32 * (w64 ((a1.mag.length : Int) - 1)))), .pointer (some ⟨b7, 1, none⟩), .slice (some ⟨b28, of29, none⟩) a1.mag.length c3, .pointer (some ⟨b7, 1, none⟩), .slice (some ⟨b28, of29, none⟩) a1.mag.length c3, .int .i64 (a1.mag.length : Int), .int .i64 (w64 ((a1.mag.length : Int) - 1)), .pointer (some ⟨b28, of29 + (w64 ((a1.mag.length : Int) - 1) : Int).toNat * 1, none⟩), .int .u32 (rd a1.mag (w64 ((a1.mag.length : Int) - 1))), .int .i64 vt30, .int .i64 (w64 ((w64 (32 * (w64 ((a1.mag.length : Int) - 1)))) + vt30))], []⟩) rfl (by kernel_rfl) (by kernel_rfl) (by kernel_rfl) hnp (Sg.g0 (Sx.of [] L33 HS35)) ?_
    refine doneG (by kernel_rfl) ?_ _
    refine hK20 _ _ ?_
    refine wp_ret ?_
    refine hret _ _ ?_
    refine ends_still (v := Value.int .i64 (w64 ((w64 (32 * (w64 ((a1.mag.length : Int) - 1)))) + vt30))) (by kernel_rfl) (by kernel_rfl) ?_
    have HS37 := HS35.drop
    injection h with h
    subst h
    exact ⟨f32, rfl, L33, HS37⟩

set_option maxRecDepth 100000 in
set_option maxHeartbeats 4000000 in
theorem big_limited.calls (k : Nat) (A3 : Option Addr) (c4 : Nat) (neg1 : Bool) (m2 : List Int) {t w : World} {f : FM} {H : List Seg} (HS : St t w f (H)) (HR5 : SlR (tInt .u32) f A3 c4 m2) (r1 : S_Int) (r2 : Int) (h : big_limited k neg1 m2 = some (r1, r2)) :
    Calls Try.prog 49 #[.bool neg1, .slice A3 m2.length c4] w (fun e w' => ∃ (g : FM) (A55 : Option Addr) (c56 : Nat), e = .returned (Value.tuple #[.agg #[.bool r1.neg, .slice A55 r1.mag.length c56], .int .i64 r2]) ∧ FM.le f g ∧ St t w' g (H) ∧ SlR (tInt .u32) g A55 c56 r1.mag) := by
  unfold big_limited at h
  refine enter Try.func49 rfl (tm := #[.bool neg1, .slice A3 m2.length c4, undef, undef, undef, undef, undef, undef, undef, undef, undef, undef, undef, undef, undef]) (by kernel_rfl) ?_
  intro B hret hnor hnp
  refine wp_seq_k (fun K6 hK7 => ?_)
  refine wp_region_lit ?_
  refine seqK rfl (does_alloc (z := Value.agg #[.bool false, .slice none 0 0]) (cs := #[.bool false, .slice none 0 0]) rfl (by kernel_rfl) rfl HS ?_)
  intro b8 W9 HS10
  refine seqS1 (a' := ⟨#[.bool neg1, .slice A3 m2.length c4, undef, undef, .pointer (some ⟨b8, 0, none⟩), .int .i64 0, undef, undef, undef, undef, undef, undef, undef, undef, undef], []⟩) (by kernel_rfl) ?_
  refine wpList_nil ?_
  refine hK7 _ _ ?_
  refine wp_seq_k (fun K12 hK13 => ?_)
  refine wp_region_lit ?_
  have hq_ := bind_some h; clear h; obtain ⟨vt14, hc15, h⟩ := hq_
  refine seqL2 (by kernel_rfl) ?_
  refine seqK rfl (does_call (f := 38) (args := #[.bool neg1, .slice A3 m2.length c4]) (by kernel_rfl) (big_made.calls k A3 c4 neg1 m2 HS10 HR5 vt14 hc15) ?_)
  rintro _ W18 ⟨f16, A20, c21, rfl, L17, HS19, HR22⟩
  refine ⟨_, rfl, ?_⟩
  refine seqK rfl (does_alloc (z := Value.agg #[.bool false, .slice none 0 0]) (cs := #[.bool false, .slice none 0 0]) rfl (by kernel_rfl) rfl HS19 ?_)
  intro b23 W24 HS25
  refine seqK rfl (does_store (n := 2) (vs := [.bool vt14.neg, .slice A20 vt14.mag.length c21]) (cs' := #[.bool vt14.neg, .slice A20 vt14.mag.length c21]) rfl (by kernel_rfl) (by kernel_rfl : _ = Value.pointer (some ⟨b23, 0, none⟩)) (by kernel_rfl : _ = Value.agg #[.bool vt14.neg, .slice A20 vt14.mag.length c21]) rfl rfl (by intro u_ hu_; simp only [List.mem_cons, List.not_mem_nil, or_false] at hu_; rcases hu_ with rfl | rfl <;> rfl) HS25 (Nat.le_of_ble_eq_true rfl) (by kernel_rfl) ?_)
  intro W27 HS28
  refine wpList_nil ?_
  refine hK13 _ _ ?_
  refine wp_seq_k (fun K29 hK30 => ?_)
  refine wp_seq_k (fun K31 hK32 => ?_)
  refine wp_region_lit ?_
  refine seqK rfl (does_run (run_loadN (n := 2) rfl Try.underlying53 rfl (by kernel_rfl) (by kernel_rfl : _ = Value.pointer (some ⟨b23, 0, none⟩)) (cs := [.bool vt14.neg, .slice A20 vt14.mag.length c21]) rfl (HS28.cells 0 2 _ rfl)) ?_)
  have hq_ := bind_some h; clear h; obtain ⟨vt33, hc34, h⟩ := hq_
  refine seqK rfl (does_call (f := 48) (args := #[.agg #[.bool vt14.neg, .slice A20 vt14.mag.length c21]]) (by kernel_rfl) (big_Bits.calls k A20 c21 vt14 HS28 HR22 vt33 hc34) ?_)
  rintro _ W37 ⟨f35, rfl, L36, HS38⟩
  refine ⟨_, rfl, ?_⟩
  refine seqS1 (a' := ⟨#[.bool neg1, .slice A3 m2.length c4, undef, undef, .pointer (some ⟨b8, 0, none⟩), .int .i64 0, .pointer (some ⟨b23, 0, none⟩), .bool neg1, .slice A3 m2.length c4, .agg #[.bool vt14.neg, .slice A20 vt14.mag.length c21], .agg #[.bool vt14.neg, .slice A20 vt14.mag.length c21], .int .i64 vt33, .bool (decide (vt33 > 131072)), undef, undef], []⟩) (by kernel_rfl) ?_
  refine wpList_nil ?_
  refine hK32 _ _ ?_
  have hq_ := ite_some h; clear h; rcases hq_ with ⟨c40, h⟩ | ⟨c40, h⟩
  · have c40 : vt33 > 131072 := c40
    refine wpRwI 12 (x := (decide (vt33 > 131072))) (v := true) (by kernel_rfl) (decide_eq_true c40) ?_
    refine condT (by kernel_rfl) ?_
    refine wp_seq_k (fun K41 hK42 => ?_)
    refine wp_region_lit ?_
    have HS43 := HS38.u1
    refine seqL1 (by kernel_rfl) ?_
    refine seqK rfl (does_store (n := 2) (vs := [.bool false, .slice none 0 0]) (cs' := #[.bool false, .slice none 0 0]) rfl (by kernel_rfl) (by kernel_rfl : _ = Value.pointer (some ⟨b8, 0, none⟩)) (by kernel_rfl : _ = Value.agg #[.bool false, .slice none 0 0]) rfl rfl (by intro u_ hu_; simp only [List.mem_cons, List.not_mem_nil, or_false] at hu_; rcases hu_ with rfl | rfl <;> rfl) HS43 (Nat.le_of_ble_eq_true rfl) (by kernel_rfl) ?_)
    intro W44 HS45
    refine seqS1 (a' := ⟨#[.bool neg1, .slice A3 m2.length c4, undef, undef, .pointer (some ⟨b8, 0, none⟩), .int .i64 2, .pointer (some ⟨b23, 0, none⟩), .bool neg1, .slice A3 m2.length c4, .agg #[.bool vt14.neg, .slice A20 vt14.mag.length c21], .agg #[.bool vt14.neg, .slice A20 vt14.mag.length c21], .int .i64 vt33, .bool true, .agg #[.bool false, .slice none 0 0], undef], []⟩) (by kernel_rfl) ?_
    refine wpList_nil ?_
    refine hK42 _ _ ?_
    refine wp_ret ?_
    refine hret _ _ ?_
    refine ends (v := Value.tuple #[.agg #[.bool false, .slice none 0 0], .int .i64 2]) (results2 (q1 := .cell 4 53) (q2 := .tmp 5) (by kernel_rfl) (resN (n := 2) (cs := [.bool false, .slice none 0 0]) (by kernel_rfl : _ = Value.pointer (some ⟨b8, 0, none⟩)) Try.underlying53 rfl (by kernel_rfl) rfl (HS45.cells 0 2 _ rfl)) (resT (by kernel_rfl : _ = Value.int .i64 2))) (by kernel_rfl) ?_
    have HS51 := HS45.drop
    have HS52 := HS51.drop
    injection h with h
    injection h with h0_ h
    subst h0_ h
    exact ⟨f35, none, 0, rfl, (L17.trans L36), HS52, (SlR.nil _ _)⟩
  · have c40 : ¬ (vt33 > 131072) := c40
    refine wpRwI 12 (x := (decide (vt33 > 131072))) (v := false) (by kernel_rfl) (decide_eq_false c40) ?_
    refine condF (by kernel_rfl) ?_
    refine wp_skip ?_
    refine hK30 _ _ ?_
    refine wp_seq_k (fun K46 hK47 => ?_)
    refine wp_region_lit ?_
    refine seqK rfl (does_run (run_loadN (n := 2) rfl Try.underlying53 rfl (by kernel_rfl) (by kernel_rfl : _ = Value.pointer (some ⟨b23, 0, none⟩)) (cs := [.bool vt14.neg, .slice A20 vt14.mag.length c21]) rfl (HS38.cells 0 2 _ rfl)) ?_)
    have HS48 := HS38.u1
    refine seqK rfl (does_store (n := 2) (vs := [.bool vt14.neg, .slice A20 vt14.mag.length c21]) (cs' := #[.bool vt14.neg, .slice A20 vt14.mag.length c21]) rfl (by kernel_rfl) (by kernel_rfl : _ = Value.pointer (some ⟨b8, 0, none⟩)) (by kernel_rfl : _ = Value.agg #[.bool vt14.neg, .slice A20 vt14.mag.length c21]) rfl rfl (by intro u_ hu_; simp only [List.mem_cons, List.not_mem_nil, or_false] at hu_; rcases hu_ with rfl | rfl <;> rfl) HS48 (Nat.le_of_ble_eq_true rfl) (by kernel_rfl) ?_)
    intro W49 HS50
    refine seqS1 (a' := ⟨#[.bool neg1, .slice A3 m2.length c4, undef, undef, .pointer (some ⟨b8, 0, none⟩), .int .i64 0, .pointer (some ⟨b23, 0, none⟩), .bool neg1, .slice A3 m2.length c4, .agg #[.bool vt14.neg, .slice A20 vt14.mag.length c21], .agg #[.bool vt14.neg, .slice A20 vt14.mag.length c21], .int .i64 vt33, .bool false, undef, .agg #[.bool vt14.neg, .slice A20 vt14.mag.length c21]], []⟩) (by kernel_rfl) ?_
    refine wpList_nil ?_
    refine hK47 _ _ ?_
    refine wp_ret ?_
    refine hret _ _ ?_
    refine ends (v := Value.tuple #[.agg #[.bool vt14.neg, .slice A20 vt14.mag.length c21], .int .i64 0]) (results2 (q1 := .cell 4 53) (q2 := .tmp 5) (by kernel_rfl) (resN (n := 2) (cs := [.bool vt14.neg, .slice A20 vt14.mag.length c21]) (by kernel_rfl : _ = Value.pointer (some ⟨b8, 0, none⟩)) Try.underlying53 rfl (by kernel_rfl) rfl (HS50.cells 0 2 _ rfl)) (resT (by kernel_rfl : _ = Value.int .i64 0))) (by kernel_rfl) ?_
    have HS53 := HS50.drop
    have HS54 := HS53.drop
    injection h with h
    injection h with h0_ h
    subst h0_ h
    exact ⟨f35, A20, c21, rfl, (L17.trans L36), HS54, (HR22.mono L36)⟩

set_option maxRecDepth 100000 in
set_option maxHeartbeats 4000000 in
theorem big_Mul.calls (k : Nat) (A2 : Option Addr) (c3 : Nat) (A6 : Option Addr) (c7 : Nat) (a1 : S_Int) (b5 : S_Int) {t w : World} {f : FM} {H : List Seg} (HS : St t w f (H)) (HR4 : SlR (tInt .u32) f A2 c3 a1.mag) (HR8 : SlR (tInt .u32) f A6 c7 b5.mag) (r1 : S_Int) (r2 : Int) (h : big_Mul k a1 b5 = some (r1, r2)) :
    Calls Try.prog 37 #[.agg #[.bool a1.neg, .slice A2 a1.mag.length c3], .agg #[.bool b5.neg, .slice A6 b5.mag.length c7]] w (fun e w' => ∃ (g : FM) (A437 : Option Addr) (c438 : Nat), e = .returned (Value.tuple #[.agg #[.bool r1.neg, .slice A437 r1.mag.length c438], .int .i64 r2]) ∧ FM.le f g ∧ St t w' g (H) ∧ SlR (tInt .u32) g A437 c438 r1.mag) := by
  unfold big_Mul at h
  refine enter Try.func37 rfl (tm := #[.agg #[.bool a1.neg, .slice A2 a1.mag.length c3], .agg #[.bool b5.neg, .slice A6 b5.mag.length c7], undef, undef, undef, undef, undef, undef, undef, undef, undef, undef, undef, undef, undef, undef, undef, undef, undef, undef, undef, undef, undef, undef, undef, undef, undef, undef, undef, undef, undef, undef, undef, undef, undef, undef, undef, undef, undef, undef, undef, undef, undef, undef, undef, undef, undef, undef, undef, undef, undef, undef, undef, undef, undef, undef, undef, undef, undef, undef, undef, undef, undef, undef, undef, undef, undef, undef, undef, undef, undef, undef, undef, undef, undef, undef, undef, undef, undef, undef, undef, undef, undef, undef, undef, undef, undef]) (by kernel_rfl) ?_
  intro B hret hnor hnp
  refine wp_seq_k (fun K9 hK10 => ?_)
  refine wp_region_lit ?_
  refine seqK rfl (does_box (cs := #[.bool a1.neg, .slice A2 a1.mag.length c3]) rfl (by kernel_rfl : _ = Value.agg #[.bool a1.neg, .slice A2 a1.mag.length c3]) rfl HS ?_)
  intro b11 W12 HS13
  refine seqK rfl (does_box (cs := #[.bool b5.neg, .slice A6 b5.mag.length c7]) rfl (by kernel_rfl : _ = Value.agg #[.bool b5.neg, .slice A6 b5.mag.length c7]) rfl HS13 ?_)
  intro b15 W16 HS17
  refine seqK rfl (does_alloc (z := Value.agg #[.bool false, .slice none 0 0]) (cs := #[.bool false, .slice none 0 0]) rfl (by kernel_rfl) rfl HS17 ?_)
  intro b19 W20 HS21
  refine seqS1 (a' := ⟨#[.agg #[.bool a1.neg, .slice A2 a1.mag.length c3], .agg #[.bool b5.neg, .slice A6 b5.mag.length c7], .pointer (some ⟨b11, 0, none⟩), .pointer (some ⟨b15, 0, none⟩), .pointer (some ⟨b19, 0, none⟩), .int .i64 0, undef, undef, undef, undef, undef, undef, undef, undef, undef, undef, undef, undef, undef, undef, undef, undef, undef, undef, undef, undef, undef, undef, undef, undef, undef, undef, undef, undef, undef, undef, undef, undef, undef, undef, undef, undef, undef, undef, undef, undef, undef, undef, undef, undef, undef, undef, undef, undef, undef, undef, undef, undef, undef, undef, undef, undef, undef, undef, undef, undef, undef, undef, undef, undef, undef, undef, undef, undef, undef, undef, undef, undef, undef, undef, undef, undef, undef, undef, undef, undef, undef], []⟩) (by kernel_rfl) ?_
  refine wpList_nil ?_
  refine hK10 _ _ ?_
  refine wp_seq_k (fun K23 hK24 => ?_)
  refine wp_seq_k (fun K25 hK26 => ?_)
  refine heldG (S := Sg t f ([(b19, .cells #[.bool false, .slice none 0 0] 53 (0, 0))] :: [(b15, .cells #[.bool b5.neg, .slice A6 b5.mag.length c7] 53 (0, 0))] :: [(b11, .cells #[.bool a1.neg, .slice A2 a1.mag.length c3] 53 (0, 0))] :: H) []) (n := 6) (by kernel_rfl) rfl HS21 ?_
  intro W27 HS28
  refine takeGQ 0 [] rfl (by kernel_rfl) (by kernel_rfl) (by kernel_rfl) (by kernel_rfl) (by kernel_rfl) (by kernel_rfl) hnp (Sg.g0 (Sx.of [] (FM.le.refl _) HS28)) (fun w_ hw_ => by obtain ⟨g_, hl_, hS_⟩ := hw_.st; exact run_loadN (n := 2) rfl Try.underlying53 rfl (by kernel_rfl) (by kernel_rfl : _ = Value.pointer (some ⟨b11, 0, none⟩)) (cs := [.bool a1.neg, .slice A2 a1.mag.length c3]) rfl (hS_.u2.cells 0 2 _ rfl)) ?_
  refine takeGQ 2 [] rfl (by kernel_rfl) (by kernel_rfl) (by kernel_rfl) (by kernel_rfl) (by kernel_rfl) (by kernel_rfl) hnp (Sg.g0 (Sx.of [] (FM.le.refl _) HS28)) (fun w_ hw_ => by obtain ⟨g_, hl_, hS_⟩ := hw_.st; exact run_loadN (n := 2) rfl Try.underlying53 rfl (by kernel_rfl) (by kernel_rfl : _ = Value.pointer (some ⟨b15, 0, none⟩)) (cs := [.bool b5.neg, .slice A6 b5.mag.length c7]) rfl (hS_.u1.cells 0 2 _ rfl)) ?_
  have hq_ := bind_some h; clear h; obtain ⟨vt29, hc30, h⟩ := hq_
  refine takeGE 1 (by kernel_rfl) rfl (by kernel_rfl) (does_call (f := 48) (args := #[.agg #[.bool a1.neg, .slice A2 a1.mag.length c3]]) (by kernel_rfl) (big_Bits.calls k A2 c3 a1 HS28 HR4 vt29 hc30) ?_)
  rintro _ W33 ⟨f31, rfl, L32, HS34⟩
  refine ⟨_, rfl, ?_⟩
  refine ⟨(Sg.g0 (Sx.of [] L32 HS34)), ?_⟩
  have hq_ := bind_some h; clear h; obtain ⟨vt35, hc36, h⟩ := hq_
  refine takeGE 3 (by kernel_rfl) rfl (by kernel_rfl) (does_call (f := 48) (args := #[.agg #[.bool b5.neg, .slice A6 b5.mag.length c7]]) (by kernel_rfl) (big_Bits.calls k A6 c7 b5 HS34 (HR8.mono L32) vt35 hc36) ?_)
  rintro _ W39 ⟨f37, rfl, L38, HS40⟩
  refine ⟨_, rfl, ?_⟩
  refine ⟨(Sg.g0 (Sx.of [] (L32.trans L38) HS40)), ?_⟩
  refine takeG [4, 5] (n := 2) (fuel := 0) (l' := #[true, true, true, true, true, true]) (a' := ⟨#[.agg #[.bool a1.neg, .slice A2 a1.mag.length c3], .agg #[.bool b5.neg, .slice A6 b5.mag.length c7], .pointer (some ⟨b11, 0, none⟩), .pointer (some ⟨b15, 0, none⟩), .pointer (some ⟨b19, 0, none⟩), .int .i64 0, undef, undef, undef, undef, undef, undef, .agg #[.bool a1.neg, .slice A2 a1.mag.length c3], .int .i64 vt29, .agg #[.bool b5.neg, .slice A6 b5.mag.length c7], .int .i64 vt35, .int .i64 (w64 (vt29 + vt35)), .bool (decide ((w64 (vt29 + vt35)) > 131073)), undef, undef, undef, undef, undef, undef, undef, undef, undef, undef, undef, undef, undef, undef, undef, undef, undef, undef, undef, undef, undef, undef, undef, undef, undef, undef, undef, undef, undef, undef, undef, undef, undef, undef, undef, undef, undef, undef, undef, undef, undef, undef, undef, undef, undef, undef, undef, undef, undef, undef, undef, undef, undef, undef, undef, undef, undef, undef, undef, undef, undef, undef, undef, undef, undef, undef, undef, undef, undef], []⟩) rfl (by kernel_rfl) (by kernel_rfl) (by kernel_rfl) hnp (Sg.g0 (Sx.of [] (L32.trans L38) HS40)) ?_
  refine doneG (by kernel_rfl) ?_ _
  refine hK26 _ _ ?_
  have hq_ := ite_some h; clear h; rcases hq_ with ⟨c42, h⟩ | ⟨c42, h⟩
  · have c42 : (w64 (vt29 + vt35)) > 131073 := c42
    refine wpRwI 17 (x := (decide ((w64 (vt29 + vt35)) > 131073))) (v := true) (by kernel_rfl) (decide_eq_true c42) ?_
    refine condT (by kernel_rfl) ?_
    refine wp_seq_k (fun K43 hK44 => ?_)
    refine wp_region_lit ?_
    refine seqL1 (by kernel_rfl) ?_
    refine seqK rfl (does_store (n := 2) (vs := [.bool false, .slice none 0 0]) (cs' := #[.bool false, .slice none 0 0]) rfl (by kernel_rfl) (by kernel_rfl : _ = Value.pointer (some ⟨b19, 0, none⟩)) (by kernel_rfl : _ = Value.agg #[.bool false, .slice none 0 0]) rfl rfl (by intro u_ hu_; simp only [List.mem_cons, List.not_mem_nil, or_false] at hu_; rcases hu_ with rfl | rfl <;> rfl) HS40 (Nat.le_of_ble_eq_true rfl) (by kernel_rfl) ?_)
    intro W45 HS46
    refine seqS1 (a' := ⟨#[.agg #[.bool a1.neg, .slice A2 a1.mag.length c3], .agg #[.bool b5.neg, .slice A6 b5.mag.length c7], .pointer (some ⟨b11, 0, none⟩), .pointer (some ⟨b15, 0, none⟩), .pointer (some ⟨b19, 0, none⟩), .int .i64 2, undef, undef, undef, undef, undef, undef, .agg #[.bool a1.neg, .slice A2 a1.mag.length c3], .int .i64 vt29, .agg #[.bool b5.neg, .slice A6 b5.mag.length c7], .int .i64 vt35, .int .i64 (w64 (vt29 + vt35)), .bool true, .agg #[.bool false, .slice none 0 0], undef, undef, undef, undef, undef, undef, undef, undef, undef, undef, undef, undef, undef, undef, undef, undef, undef, undef, undef, undef, undef, undef, undef, undef, undef, undef, undef, undef, undef, undef, undef, undef, undef, undef, undef, undef, undef, undef, undef, undef, undef, undef, undef, undef, undef, undef, undef, undef, undef, undef, undef, undef, undef, undef, undef, undef, undef, undef, undef, undef, undef, undef, undef, undef, undef, undef, undef, undef], []⟩) (by kernel_rfl) ?_
    refine wpList_nil ?_
    refine hK44 _ _ ?_
    refine wp_ret ?_
    refine hret _ _ ?_
    refine ends (v := Value.tuple #[.agg #[.bool false, .slice none 0 0], .int .i64 2]) (results2 (q1 := .cell 4 53) (q2 := .tmp 5) (by kernel_rfl) (resN (n := 2) (cs := [.bool false, .slice none 0 0]) (by kernel_rfl : _ = Value.pointer (some ⟨b19, 0, none⟩)) Try.underlying53 rfl (by kernel_rfl) rfl (HS46.cells 0 2 _ rfl)) (resT (by kernel_rfl : _ = Value.int .i64 2))) (by kernel_rfl) ?_
    have HS431 := HS46.drop
    have HS432 := HS431.drop
    have HS433 := HS432.drop
    injection h with h
    injection h with h0_ h
    subst h0_ h
    exact ⟨f37, none, 0, rfl, (L32.trans L38), HS433, (SlR.nil _ _)⟩
  · have c42 : ¬ ((w64 (vt29 + vt35)) > 131073) := c42
    refine wpRwI 17 (x := (decide ((w64 (vt29 + vt35)) > 131073))) (v := false) (by kernel_rfl) (decide_eq_false c42) ?_
    refine condF (by kernel_rfl) ?_
    refine wp_skip ?_
    refine hK24 _ _ ?_
    refine wp_seq_k (fun K47 hK48 => ?_)
    refine wp_region_lit ?_
    refine seqL1 (by kernel_rfl) ?_
    refine seqK rfl (does_run (run_load rfl Try.underlying51 rfl (by kernel_rfl : _ = Value.pointer (some ⟨b11, 1, none⟩)) (HS40.u2.cell 1)) ?_)
    refine seqL2 (by kernel_rfl) ?_
    refine seqK rfl (does_run (run_load rfl Try.underlying51 rfl (by kernel_rfl : _ = Value.pointer (some ⟨b15, 1, none⟩)) (HS40.u1.cell 1)) ?_)
    have hq_ := guard_some h; clear h; obtain ⟨c49, h⟩ := hq_
    have c49 : 0 ≤ (w64 ((a1.mag.length : Int) + (b5.mag.length : Int))) := c49
    have hq_ := guard_some h; clear h; obtain ⟨c50, h⟩ := hq_
    have c50 : (w64 ((a1.mag.length : Int) + (b5.mag.length : Int))) * 4 ≤ 140737488355328 := c50
    refine seqL2 (by kernel_rfl) ?_
    refine seqK rfl (does_make (e := (tInt .u32)) (E := 86) (u := 0) (n := w64 ((a1.mag.length : Int) + (b5.mag.length : Int))) rfl (by kernel_rfl : _ = Value.int .i64 (w64 ((a1.mag.length : Int) + (b5.mag.length : Int)))) (by kernel_rfl : _ = Value.int .i64 (w64 ((a1.mag.length : Int) + (b5.mag.length : Int)))) Try.underlying51 inf86 c49 c50 (by omega) rfl HS40 ?_)
    intro b51 W52 s53 HS54 HO55
    refine seqS1 (a' := ⟨#[.agg #[.bool a1.neg, .slice A2 a1.mag.length c3], .agg #[.bool b5.neg, .slice A6 b5.mag.length c7], .pointer (some ⟨b11, 0, none⟩), .pointer (some ⟨b15, 0, none⟩), .pointer (some ⟨b19, 0, none⟩), .int .i64 0, .slice (some ⟨b51, 0, none⟩) (List.replicate (w64 ((a1.mag.length : Int) + (b5.mag.length : Int))).toNat (0 : Int)).length (w64 ((a1.mag.length : Int) + (b5.mag.length : Int))).toNat, undef, undef, undef, undef, undef, .agg #[.bool a1.neg, .slice A2 a1.mag.length c3], .int .i64 vt29, .agg #[.bool b5.neg, .slice A6 b5.mag.length c7], .int .i64 vt35, .int .i64 (w64 (vt29 + vt35)), .bool false, undef, .pointer (some ⟨b11, 1, none⟩), .slice A2 a1.mag.length c3, .int .i64 (a1.mag.length : Int), .pointer (some ⟨b15, 1, none⟩), .slice A6 b5.mag.length c7, .int .i64 (b5.mag.length : Int), .int .i64 (w64 ((a1.mag.length : Int) + (b5.mag.length : Int))), .slice (some ⟨b51, 0, none⟩) (List.replicate (w64 ((a1.mag.length : Int) + (b5.mag.length : Int))).toNat (0 : Int)).length (w64 ((a1.mag.length : Int) + (b5.mag.length : Int))).toNat, undef, undef, undef, undef, undef, undef, undef, undef, undef, undef, undef, undef, undef, undef, undef, undef, undef, undef, undef, undef, undef, undef, undef, undef, undef, undef, undef, undef, undef, undef, undef, undef, undef, undef, undef, undef, undef, undef, undef, undef, undef, undef, undef, undef, undef, undef, undef, undef, undef, undef, undef, undef, undef, undef, undef, undef, undef, undef, undef, undef], []⟩) (by kernel_rfl) ?_
    refine wpList_nil ?_
    refine hK48 _ _ ?_
    refine wp_seq_k (fun K57 hK58 => ?_)
    refine wp_seq_k (fun K59 hK60 => ?_)
    refine wp_region_lit ?_
    refine seqL1 (by kernel_rfl) ?_
    refine seqK rfl (does_run (run_load rfl Try.underlying51 rfl (by kernel_rfl : _ = Value.pointer (some ⟨b11, 1, none⟩)) (HS54.u3.cell 1)) ?_)
    refine seqS2 (a' := ⟨#[.agg #[.bool a1.neg, .slice A2 a1.mag.length c3], .agg #[.bool b5.neg, .slice A6 b5.mag.length c7], .pointer (some ⟨b11, 0, none⟩), .pointer (some ⟨b15, 0, none⟩), .pointer (some ⟨b19, 0, none⟩), .int .i64 0, .slice (some ⟨b51, 0, none⟩) (List.replicate (w64 ((a1.mag.length : Int) + (b5.mag.length : Int))).toNat (0 : Int)).length (w64 ((a1.mag.length : Int) + (b5.mag.length : Int))).toNat, undef, undef, undef, undef, undef, .agg #[.bool a1.neg, .slice A2 a1.mag.length c3], .int .i64 vt29, .agg #[.bool b5.neg, .slice A6 b5.mag.length c7], .int .i64 vt35, .int .i64 (w64 (vt29 + vt35)), .bool false, undef, .pointer (some ⟨b11, 1, none⟩), .slice A2 a1.mag.length c3, .int .i64 (a1.mag.length : Int), .pointer (some ⟨b15, 1, none⟩), .slice A6 b5.mag.length c7, .int .i64 (b5.mag.length : Int), .int .i64 (w64 ((a1.mag.length : Int) + (b5.mag.length : Int))), .slice (some ⟨b51, 0, none⟩) (List.replicate (w64 ((a1.mag.length : Int) + (b5.mag.length : Int))).toNat (0 : Int)).length (w64 ((a1.mag.length : Int) + (b5.mag.length : Int))).toNat, .pointer (some ⟨b11, 1, none⟩), .slice A2 a1.mag.length c3, .int .i64 (a1.mag.length : Int), .int .i64 0, undef, undef, undef, undef, undef, undef, undef, undef, undef, undef, undef, undef, undef, undef, undef, undef, undef, undef, undef, undef, undef, undef, undef, undef, undef, undef, undef, undef, undef, undef, undef, undef, undef, undef, undef, undef, undef, undef, undef, undef, undef, undef, undef, undef, undef, undef, undef, undef, undef, undef, undef, undef, undef, undef, undef, undef], []⟩) (by kernel_rfl) ?_
    refine wpList_nil ?_
    refine hK60 _ _ ?_
    refine blockK (fun B61 hx62 hn63 hr64 ho65 hp66 => ?_)
    have hq_ := bind_some h; clear h; obtain ⟨o232, hv410, h⟩ := hq_
    have J411 : ∀ (f401 : FM) (s407 : Seg) (out406 : List Int) (j405 : Nat → Value) (W403 : World) (a_ : Act), FM.le f37 f401 → some (out406) = some o232 → St t W403 f401 (s407 :: [(b19, .cells #[.bool false, .slice none 0 0] 53 (0, 0))] :: [(b15, .cells #[.bool b5.neg, .slice A6 b5.mag.length c7] 53 (0, 0))] :: [(b11, .cells #[.bool a1.neg, .slice A2 a1.mag.length c3] 53 (0, 0))] :: H) → Own (tInt .u32) 86 f401 (some ⟨b51, 0, none⟩) (w64 ((a1.mag.length : Int) + (b5.mag.length : Int))).toNat s407 out406 → out406.length = (List.replicate (w64 ((a1.mag.length : Int) + (b5.mag.length : Int))).toNat (0 : Int)).length → a_ = ⟨#[.agg #[.bool a1.neg, .slice A2 a1.mag.length c3], .agg #[.bool b5.neg, .slice A6 b5.mag.length c7], .pointer (some ⟨b11, 0, none⟩), .pointer (some ⟨b15, 0, none⟩), .pointer (some ⟨b19, 0, none⟩), .int .i64 0, .slice (some ⟨b51, 0, none⟩) out406.length (w64 ((a1.mag.length : Int) + (b5.mag.length : Int))).toNat, (j405 0), (j405 1), (j405 2), (j405 3), (j405 4), .agg #[.bool a1.neg, .slice A2 a1.mag.length c3], .int .i64 vt29, .agg #[.bool b5.neg, .slice A6 b5.mag.length c7], .int .i64 vt35, .int .i64 (w64 (vt29 + vt35)), .bool false, undef, .pointer (some ⟨b11, 1, none⟩), .slice A2 a1.mag.length c3, .int .i64 (a1.mag.length : Int), .pointer (some ⟨b15, 1, none⟩), .slice A6 b5.mag.length c7, .int .i64 (b5.mag.length : Int), .int .i64 (w64 ((a1.mag.length : Int) + (b5.mag.length : Int))), (j405 5), .pointer (some ⟨b11, 1, none⟩), .slice A2 a1.mag.length c3, .int .i64 (a1.mag.length : Int), (j405 6), (j405 7), (j405 8), (j405 9), (j405 10), (j405 11), (j405 12), (j405 13), (j405 14), (j405 15), (j405 16), (j405 17), (j405 18), (j405 19), (j405 20), (j405 21), (j405 22), (j405 23), (j405 24), (j405 25), (j405 26), (j405 27), (j405 28), (j405 29), (j405 30), (j405 31), (j405 32), (j405 33), (j405 34), (j405 35), (j405 36), (j405 37), (j405 38), (j405 39), (j405 40), (j405 41), (j405 42), (j405 43), (j405 44), (j405 45), (j405 46), (j405 47), (j405 48), (j405 49), (j405 50), (j405 51), (j405 52), (j405 53), undef, undef, undef, undef, undef, undef, undef, undef, undef], []⟩ → K57 a_ W403 := by
      intro f401 s407 out406 j405 W403 a_ L402 hj412 HS404 HO408 HL409 hfr_; subst hfr_
      injection hj412 with hj412; subst hj412; try dsimp only at h
      refine hK58 _ _ ?_
      refine wp_seq_k (fun K413 hK414 => ?_)
      refine wp_region_lit ?_
      refine seqL1 (by kernel_rfl) ?_
      refine seqK rfl (does_run (run_load rfl Try.underlying4 rfl (by kernel_rfl : _ = Value.pointer (some ⟨b11, 0, none⟩)) (HS404.u3.cell 0)) ?_)
      refine seqL1 (by kernel_rfl) ?_
      refine seqK rfl (does_run (run_load rfl Try.underlying4 rfl (by kernel_rfl : _ = Value.pointer (some ⟨b15, 0, none⟩)) (HS404.u2.cell 0)) ?_)
      obtain ⟨f415, L416, HS417, HR418⟩ := HO408.freeze HS404
      have hq_ := bind_some h; clear h; obtain ⟨⟨vt419, vt420⟩, hc421, h⟩ := hq_
      refine seqL2 (by kernel_rfl) ?_
      refine seqK rfl (does_call (f := 49) (args := #[.bool (a1.neg != b5.neg), .slice (some ⟨b51, 0, none⟩) out406.length (w64 ((a1.mag.length : Int) + (b5.mag.length : Int))).toNat]) (by kernel_rfl) (big_limited.calls k (some ⟨b51, 0, none⟩) ((w64 ((a1.mag.length : Int) + (b5.mag.length : Int))).toNat) (a1.neg != b5.neg) out406 HS417 HR418 vt419 vt420 hc421) ?_)
      rintro _ W424 ⟨f422, A426, c427, rfl, L423, HS425, HR428⟩
      refine ⟨_, rfl, ?_⟩
      refine seqL2 (by kernel_rfl) ?_
      refine seqK rfl (does_store (n := 2) (vs := [.bool vt419.neg, .slice A426 vt419.mag.length c427]) (cs' := #[.bool vt419.neg, .slice A426 vt419.mag.length c427]) rfl (by kernel_rfl) (by kernel_rfl : _ = Value.pointer (some ⟨b19, 0, none⟩)) (by kernel_rfl : _ = Value.agg #[.bool vt419.neg, .slice A426 vt419.mag.length c427]) rfl rfl (by intro u_ hu_; simp only [List.mem_cons, List.not_mem_nil, or_false] at hu_; rcases hu_ with rfl | rfl <;> rfl) HS425 (Nat.le_of_ble_eq_true rfl) (by kernel_rfl) ?_)
      intro W429 HS430
      refine seqS1 (a' := ⟨#[.agg #[.bool a1.neg, .slice A2 a1.mag.length c3], .agg #[.bool b5.neg, .slice A6 b5.mag.length c7], .pointer (some ⟨b11, 0, none⟩), .pointer (some ⟨b15, 0, none⟩), .pointer (some ⟨b19, 0, none⟩), .int .i64 vt420, .slice (some ⟨b51, 0, none⟩) out406.length (w64 ((a1.mag.length : Int) + (b5.mag.length : Int))).toNat, (j405 0), (j405 1), (j405 2), (j405 3), (j405 4), .agg #[.bool a1.neg, .slice A2 a1.mag.length c3], .int .i64 vt29, .agg #[.bool b5.neg, .slice A6 b5.mag.length c7], .int .i64 vt35, .int .i64 (w64 (vt29 + vt35)), .bool false, undef, .pointer (some ⟨b11, 1, none⟩), .slice A2 a1.mag.length c3, .int .i64 (a1.mag.length : Int), .pointer (some ⟨b15, 1, none⟩), .slice A6 b5.mag.length c7, .int .i64 (b5.mag.length : Int), .int .i64 (w64 ((a1.mag.length : Int) + (b5.mag.length : Int))), (j405 5), .pointer (some ⟨b11, 1, none⟩), .slice A2 a1.mag.length c3, .int .i64 (a1.mag.length : Int), (j405 6), (j405 7), (j405 8), (j405 9), (j405 10), (j405 11), (j405 12), (j405 13), (j405 14), (j405 15), (j405 16), (j405 17), (j405 18), (j405 19), (j405 20), (j405 21), (j405 22), (j405 23), (j405 24), (j405 25), (j405 26), (j405 27), (j405 28), (j405 29), (j405 30), (j405 31), (j405 32), (j405 33), (j405 34), (j405 35), (j405 36), (j405 37), (j405 38), (j405 39), (j405 40), (j405 41), (j405 42), (j405 43), (j405 44), (j405 45), (j405 46), (j405 47), (j405 48), (j405 49), (j405 50), (j405 51), (j405 52), (j405 53), .pointer (some ⟨b11, 0, none⟩), .bool a1.neg, .pointer (some ⟨b15, 0, none⟩), .bool b5.neg, .bool (a1.neg != b5.neg), .slice (some ⟨b51, 0, none⟩) out406.length (w64 ((a1.mag.length : Int) + (b5.mag.length : Int))).toNat, .tuple #[.agg #[.bool vt419.neg, .slice A426 vt419.mag.length c427], .int .i64 vt420], .agg #[.bool vt419.neg, .slice A426 vt419.mag.length c427], .int .i64 vt420], []⟩) (by kernel_rfl) ?_
      refine wpList_nil ?_
      refine hK414 _ _ ?_
      refine wp_ret ?_
      refine hret _ _ ?_
      refine ends (v := Value.tuple #[.agg #[.bool vt419.neg, .slice A426 vt419.mag.length c427], .int .i64 vt420]) (results2 (q1 := .cell 4 53) (q2 := .tmp 5) (by kernel_rfl) (resN (n := 2) (cs := [.bool vt419.neg, .slice A426 vt419.mag.length c427]) (by kernel_rfl : _ = Value.pointer (some ⟨b19, 0, none⟩)) Try.underlying53 rfl (by kernel_rfl) rfl (HS430.cells 0 2 _ rfl)) (resT (by kernel_rfl : _ = Value.int .i64 vt420))) (by kernel_rfl) ?_
      have HS434 := HS430.drop
      have HS435 := HS434.drop
      have HS436 := HS435.drop
      injection h with h
      injection h with h0_ h
      subst h0_ h
      exact ⟨f422, A426, c427, rfl, (L32.trans (L38.trans (L402.trans (L416.trans L423)))), HS436, HR428⟩
    clear h; have h := hv410; clear hv410
    refine loopK (fun n_ a_ w_ => ∃ (f236 : FM) (s242 : Seg) (out241 : List Int) (x245 : Int) (j240 : Nat → Value), FM.le f37 f236 ∧ St t w_ f236 (s242 :: [(b19, .cells #[.bool false, .slice none 0 0] 53 (0, 0))] :: [(b15, .cells #[.bool b5.neg, .slice A6 b5.mag.length c7] 53 (0, 0))] :: [(b11, .cells #[.bool a1.neg, .slice A2 a1.mag.length c3] 53 (0, 0))] :: H) ∧ Own (tInt .u32) 86 f236 (some ⟨b51, 0, none⟩) (w64 ((a1.mag.length : Int) + (b5.mag.length : Int))).toNat s242 out241 ∧ out241.length = (List.replicate (w64 ((a1.mag.length : Int) + (b5.mag.length : Int))).toNat (0 : Int)).length ∧ big_Mul.l0 k a1 b5 n_ out241 x245 = some o232 ∧ a_ = ⟨#[.agg #[.bool a1.neg, .slice A2 a1.mag.length c3], .agg #[.bool b5.neg, .slice A6 b5.mag.length c7], .pointer (some ⟨b11, 0, none⟩), .pointer (some ⟨b15, 0, none⟩), .pointer (some ⟨b19, 0, none⟩), .int .i64 0, .slice (some ⟨b51, 0, none⟩) out241.length (w64 ((a1.mag.length : Int) + (b5.mag.length : Int))).toNat, (j240 0), (j240 1), (j240 2), (j240 3), (j240 4), .agg #[.bool a1.neg, .slice A2 a1.mag.length c3], .int .i64 vt29, .agg #[.bool b5.neg, .slice A6 b5.mag.length c7], .int .i64 vt35, .int .i64 (w64 (vt29 + vt35)), .bool false, undef, .pointer (some ⟨b11, 1, none⟩), .slice A2 a1.mag.length c3, .int .i64 (a1.mag.length : Int), .pointer (some ⟨b15, 1, none⟩), .slice A6 b5.mag.length c7, .int .i64 (b5.mag.length : Int), .int .i64 (w64 ((a1.mag.length : Int) + (b5.mag.length : Int))), .slice (some ⟨b51, 0, none⟩) (List.replicate (w64 ((a1.mag.length : Int) + (b5.mag.length : Int))).toNat (0 : Int)).length (w64 ((a1.mag.length : Int) + (b5.mag.length : Int))).toNat, .pointer (some ⟨b11, 1, none⟩), .slice A2 a1.mag.length c3, .int .i64 (a1.mag.length : Int), .int .i64 x245, (j240 5), (j240 6), (j240 7), (j240 8), (j240 9), (j240 10), (j240 11), (j240 12), (j240 13), (j240 14), (j240 15), (j240 16), (j240 17), (j240 18), (j240 19), (j240 20), (j240 21), (j240 22), (j240 23), (j240 24), (j240 25), (j240 26), (j240 27), (j240 28), (j240 29), (j240 30), (j240 31), (j240 32), (j240 33), (j240 34), (j240 35), (j240 36), (j240 37), (j240 38), (j240 39), (j240 40), (j240 41), (j240 42), (j240 43), (j240 44), (j240 45), (j240 46), (j240 47), (j240 48), (j240 49), (j240 50), (j240 51), undef, undef, undef, undef, undef, undef, undef, undef, undef], []⟩) k ⟨f37, s53, (List.replicate (w64 ((a1.mag.length : Int) + (b5.mag.length : Int))).toNat (0 : Int)), 0, (fun i_ => [undef, undef, undef, undef, undef, undef, undef, undef, undef, undef, undef, undef, undef, undef, undef, undef, undef, undef, undef, undef, undef, undef, undef, undef, undef, undef, undef, undef, undef, undef, undef, undef, undef, undef, undef, undef, undef, undef, undef, undef, undef, undef, undef, undef, undef, undef, undef, undef, undef, undef, undef, undef].getD i_ undef), (FM.le.refl _), HS54, HO55, rfl, h, (by kernel_rfl)⟩ ?_
    clear h
    rintro n235 _ W238 ⟨f236, s242, out241, x245, j240, L237, HS239, HO243, HL244, h, rfl⟩ K233 hK234
    obtain _ | n235 := n235
    · exact nomatch h
    simp only [big_Mul.l0] at h
    refine wp_seq_k (fun K246 hK247 => ?_)
    refine wp_region_lit ?_
    refine seqS1 (a' := ⟨#[.agg #[.bool a1.neg, .slice A2 a1.mag.length c3], .agg #[.bool b5.neg, .slice A6 b5.mag.length c7], .pointer (some ⟨b11, 0, none⟩), .pointer (some ⟨b15, 0, none⟩), .pointer (some ⟨b19, 0, none⟩), .int .i64 0, .slice (some ⟨b51, 0, none⟩) out241.length (w64 ((a1.mag.length : Int) + (b5.mag.length : Int))).toNat, (j240 0), (j240 1), (j240 2), (j240 3), (j240 4), .agg #[.bool a1.neg, .slice A2 a1.mag.length c3], .int .i64 vt29, .agg #[.bool b5.neg, .slice A6 b5.mag.length c7], .int .i64 vt35, .int .i64 (w64 (vt29 + vt35)), .bool false, undef, .pointer (some ⟨b11, 1, none⟩), .slice A2 a1.mag.length c3, .int .i64 (a1.mag.length : Int), .pointer (some ⟨b15, 1, none⟩), .slice A6 b5.mag.length c7, .int .i64 (b5.mag.length : Int), .int .i64 (w64 ((a1.mag.length : Int) + (b5.mag.length : Int))), .slice (some ⟨b51, 0, none⟩) (List.replicate (w64 ((a1.mag.length : Int) + (b5.mag.length : Int))).toNat (0 : Int)).length (w64 ((a1.mag.length : Int) + (b5.mag.length : Int))).toNat, .pointer (some ⟨b11, 1, none⟩), .slice A2 a1.mag.length c3, .int .i64 (a1.mag.length : Int), .int .i64 x245, .bool (decide (x245 < (a1.mag.length : Int))), (j240 6), (j240 7), (j240 8), (j240 9), (j240 10), (j240 11), (j240 12), (j240 13), (j240 14), (j240 15), (j240 16), (j240 17), (j240 18), (j240 19), (j240 20), (j240 21), (j240 22), (j240 23), (j240 24), (j240 25), (j240 26), (j240 27), (j240 28), (j240 29), (j240 30), (j240 31), (j240 32), (j240 33), (j240 34), (j240 35), (j240 36), (j240 37), (j240 38), (j240 39), (j240 40), (j240 41), (j240 42), (j240 43), (j240 44), (j240 45), (j240 46), (j240 47), (j240 48), (j240 49), (j240 50), (j240 51), undef, undef, undef, undef, undef, undef, undef, undef, undef], []⟩) (by kernel_rfl) ?_
    refine wpList_nil ?_
    refine hK247 _ _ ?_
    refine wp_seq_k (fun K248 hK249 => ?_)
    have hq_ := ite_some h; clear h; rcases hq_ with ⟨c251, h⟩ | ⟨c251, h⟩
    · have c251 : x245 < (a1.mag.length : Int) := c251
      refine wpRwI 31 (x := (decide (x245 < (a1.mag.length : Int)))) (v := true) (by kernel_rfl) (decide_eq_true c251) ?_
      refine condT (by kernel_rfl) ?_
      refine wp_skip ?_
      refine hK249 _ _ ?_
      refine wp_seq_k (fun K252 hK253 => ?_)
      refine blockK (fun B254 hx255 hn256 hr257 ho258 hp259 => ?_)
      refine wp_seq_k (fun K261 hK262 => ?_)
      refine wp_region_lit ?_
      have hq_ := guard_some h; clear h; obtain ⟨c263, h⟩ := hq_
      have c263 : 0 ≤ x245 := c263
      obtain ⟨b267, of268, cs264, rfl, hr265, hc266⟩ := (HR4.mono (L32.trans (L38.trans L237))).at (i := x245) c263 c251
      obtain rfl := hr265
      refine seqL1 (by kernel_rfl) ?_
      refine seqK rfl (does_run (run_index (sz := 1) rfl Try.underlying51 (by kernel_rfl) (by kernel_rfl : _ = Value.slice (some ⟨b267, of268, none⟩) a1.mag.length c3) (by kernel_rfl : _ = Value.int .i64 x245) c263 c251 W238) ?_)
      refine seqK rfl (does_run (run_load rfl Try.underlying86 rfl (by kernel_rfl : _ = Value.pointer (some ⟨b267, of268 + (x245 : Int).toNat * 1, none⟩)) ((hc266 (FM.le.refl _) HS239) 0 (by decide))) ?_)
      refine seqS2 (a' := ⟨#[.agg #[.bool a1.neg, .slice (some ⟨b267, of268, none⟩) a1.mag.length c3], .agg #[.bool b5.neg, .slice A6 b5.mag.length c7], .pointer (some ⟨b11, 0, none⟩), .pointer (some ⟨b15, 0, none⟩), .pointer (some ⟨b19, 0, none⟩), .int .i64 0, .slice (some ⟨b51, 0, none⟩) out241.length (w64 ((a1.mag.length : Int) + (b5.mag.length : Int))).toNat, .int .i64 x245, .int .u32 (rd a1.mag x245), (j240 2), (j240 3), (j240 4), .agg #[.bool a1.neg, .slice (some ⟨b267, of268, none⟩) a1.mag.length c3], .int .i64 vt29, .agg #[.bool b5.neg, .slice A6 b5.mag.length c7], .int .i64 vt35, .int .i64 (w64 (vt29 + vt35)), .bool false, undef, .pointer (some ⟨b11, 1, none⟩), .slice (some ⟨b267, of268, none⟩) a1.mag.length c3, .int .i64 (a1.mag.length : Int), .pointer (some ⟨b15, 1, none⟩), .slice A6 b5.mag.length c7, .int .i64 (b5.mag.length : Int), .int .i64 (w64 ((a1.mag.length : Int) + (b5.mag.length : Int))), .slice (some ⟨b51, 0, none⟩) (List.replicate (w64 ((a1.mag.length : Int) + (b5.mag.length : Int))).toNat (0 : Int)).length (w64 ((a1.mag.length : Int) + (b5.mag.length : Int))).toNat, .pointer (some ⟨b11, 1, none⟩), .slice (some ⟨b267, of268, none⟩) a1.mag.length c3, .int .i64 (a1.mag.length : Int), .int .i64 x245, .bool true, .int .i64 x245, .pointer (some ⟨b267, of268 + (x245 : Int).toNat * 1, none⟩), .int .u32 (rd a1.mag x245), (j240 9), (j240 10), (j240 11), (j240 12), (j240 13), (j240 14), (j240 15), (j240 16), (j240 17), (j240 18), (j240 19), (j240 20), (j240 21), (j240 22), (j240 23), (j240 24), (j240 25), (j240 26), (j240 27), (j240 28), (j240 29), (j240 30), (j240 31), (j240 32), (j240 33), (j240 34), (j240 35), (j240 36), (j240 37), (j240 38), (j240 39), (j240 40), (j240 41), (j240 42), (j240 43), (j240 44), (j240 45), (j240 46), (j240 47), (j240 48), (j240 49), (j240 50), (j240 51), undef, undef, undef, undef, undef, undef, undef, undef, undef], []⟩) (by kernel_rfl) ?_
      refine wpList_nil ?_
      refine hK262 _ _ ?_
      refine wp_seq_k (fun K269 hK270 => ?_)
      refine wp_region_lit ?_
      refine seqS1 (a' := ⟨#[.agg #[.bool a1.neg, .slice (some ⟨b267, of268, none⟩) a1.mag.length c3], .agg #[.bool b5.neg, .slice A6 b5.mag.length c7], .pointer (some ⟨b11, 0, none⟩), .pointer (some ⟨b15, 0, none⟩), .pointer (some ⟨b19, 0, none⟩), .int .i64 0, .slice (some ⟨b51, 0, none⟩) out241.length (w64 ((a1.mag.length : Int) + (b5.mag.length : Int))).toNat, .int .i64 x245, .int .u32 (rd a1.mag x245), .int .u64 0, (j240 3), (j240 4), .agg #[.bool a1.neg, .slice (some ⟨b267, of268, none⟩) a1.mag.length c3], .int .i64 vt29, .agg #[.bool b5.neg, .slice A6 b5.mag.length c7], .int .i64 vt35, .int .i64 (w64 (vt29 + vt35)), .bool false, undef, .pointer (some ⟨b11, 1, none⟩), .slice (some ⟨b267, of268, none⟩) a1.mag.length c3, .int .i64 (a1.mag.length : Int), .pointer (some ⟨b15, 1, none⟩), .slice A6 b5.mag.length c7, .int .i64 (b5.mag.length : Int), .int .i64 (w64 ((a1.mag.length : Int) + (b5.mag.length : Int))), .slice (some ⟨b51, 0, none⟩) (List.replicate (w64 ((a1.mag.length : Int) + (b5.mag.length : Int))).toNat (0 : Int)).length (w64 ((a1.mag.length : Int) + (b5.mag.length : Int))).toNat, .pointer (some ⟨b11, 1, none⟩), .slice (some ⟨b267, of268, none⟩) a1.mag.length c3, .int .i64 (a1.mag.length : Int), .int .i64 x245, .bool true, .int .i64 x245, .pointer (some ⟨b267, of268 + (x245 : Int).toNat * 1, none⟩), .int .u32 (rd a1.mag x245), (j240 9), (j240 10), (j240 11), (j240 12), (j240 13), (j240 14), (j240 15), (j240 16), (j240 17), (j240 18), (j240 19), (j240 20), (j240 21), (j240 22), (j240 23), (j240 24), (j240 25), (j240 26), (j240 27), (j240 28), (j240 29), (j240 30), (j240 31), (j240 32), (j240 33), (j240 34), (j240 35), (j240 36), (j240 37), (j240 38), (j240 39), (j240 40), (j240 41), (j240 42), (j240 43), (j240 44), (j240 45), (j240 46), (j240 47), (j240 48), (j240 49), (j240 50), (j240 51), undef, undef, undef, undef, undef, undef, undef, undef, undef], []⟩) (by kernel_rfl) ?_
      refine wpList_nil ?_
      refine hK270 _ _ ?_
      refine wp_seq_k (fun K271 hK272 => ?_)
      refine wp_seq_k (fun K273 hK274 => ?_)
      refine wp_region_lit ?_
      refine seqL1 (by kernel_rfl) ?_
      refine seqK rfl (does_run (run_load rfl Try.underlying51 rfl (by kernel_rfl : _ = Value.pointer (some ⟨b15, 1, none⟩)) (HS239.u2.cell 1)) ?_)
      refine seqS2 (a' := ⟨#[.agg #[.bool a1.neg, .slice (some ⟨b267, of268, none⟩) a1.mag.length c3], .agg #[.bool b5.neg, .slice A6 b5.mag.length c7], .pointer (some ⟨b11, 0, none⟩), .pointer (some ⟨b15, 0, none⟩), .pointer (some ⟨b19, 0, none⟩), .int .i64 0, .slice (some ⟨b51, 0, none⟩) out241.length (w64 ((a1.mag.length : Int) + (b5.mag.length : Int))).toNat, .int .i64 x245, .int .u32 (rd a1.mag x245), .int .u64 0, (j240 3), (j240 4), .agg #[.bool a1.neg, .slice (some ⟨b267, of268, none⟩) a1.mag.length c3], .int .i64 vt29, .agg #[.bool b5.neg, .slice A6 b5.mag.length c7], .int .i64 vt35, .int .i64 (w64 (vt29 + vt35)), .bool false, undef, .pointer (some ⟨b11, 1, none⟩), .slice (some ⟨b267, of268, none⟩) a1.mag.length c3, .int .i64 (a1.mag.length : Int), .pointer (some ⟨b15, 1, none⟩), .slice A6 b5.mag.length c7, .int .i64 (b5.mag.length : Int), .int .i64 (w64 ((a1.mag.length : Int) + (b5.mag.length : Int))), .slice (some ⟨b51, 0, none⟩) (List.replicate (w64 ((a1.mag.length : Int) + (b5.mag.length : Int))).toNat (0 : Int)).length (w64 ((a1.mag.length : Int) + (b5.mag.length : Int))).toNat, .pointer (some ⟨b11, 1, none⟩), .slice (some ⟨b267, of268, none⟩) a1.mag.length c3, .int .i64 (a1.mag.length : Int), .int .i64 x245, .bool true, .int .i64 x245, .pointer (some ⟨b267, of268 + (x245 : Int).toNat * 1, none⟩), .int .u32 (rd a1.mag x245), .pointer (some ⟨b15, 1, none⟩), .slice A6 b5.mag.length c7, .int .i64 (b5.mag.length : Int), .int .i64 0, (j240 13), (j240 14), (j240 15), (j240 16), (j240 17), (j240 18), (j240 19), (j240 20), (j240 21), (j240 22), (j240 23), (j240 24), (j240 25), (j240 26), (j240 27), (j240 28), (j240 29), (j240 30), (j240 31), (j240 32), (j240 33), (j240 34), (j240 35), (j240 36), (j240 37), (j240 38), (j240 39), (j240 40), (j240 41), (j240 42), (j240 43), (j240 44), (j240 45), (j240 46), (j240 47), (j240 48), (j240 49), (j240 50), (j240 51), undef, undef, undef, undef, undef, undef, undef, undef, undef], []⟩) (by kernel_rfl) ?_
      refine wpList_nil ?_
      refine hK274 _ _ ?_
      refine blockK (fun B275 hx276 hn277 hr278 ho279 hp280 => ?_)
      have hq_ := bind_some h; clear h; obtain ⟨o328, hv389, h⟩ := hq_
      have J390 : ∀ (f379 : FM) (s385 : Seg) (out384 : List Int) (c388 : Int) (j383 : Nat → Value) (W381 : World) (a_ : Act), FM.le f236 f379 → some ((out384, c388)) = some o328 → St t W381 f379 (s385 :: [(b19, .cells #[.bool false, .slice none 0 0] 53 (0, 0))] :: [(b15, .cells #[.bool b5.neg, .slice A6 b5.mag.length c7] 53 (0, 0))] :: [(b11, .cells #[.bool a1.neg, .slice (some ⟨b267, of268, none⟩) a1.mag.length c3] 53 (0, 0))] :: H) → Own (tInt .u32) 86 f379 (some ⟨b51, 0, none⟩) (w64 ((a1.mag.length : Int) + (b5.mag.length : Int))).toNat s385 out384 → out384.length = out241.length → a_ = ⟨#[.agg #[.bool a1.neg, .slice (some ⟨b267, of268, none⟩) a1.mag.length c3], .agg #[.bool b5.neg, .slice A6 b5.mag.length c7], .pointer (some ⟨b11, 0, none⟩), .pointer (some ⟨b15, 0, none⟩), .pointer (some ⟨b19, 0, none⟩), .int .i64 0, .slice (some ⟨b51, 0, none⟩) out384.length (w64 ((a1.mag.length : Int) + (b5.mag.length : Int))).toNat, .int .i64 x245, .int .u32 (rd a1.mag x245), .int .u64 c388, (j383 0), (j383 1), .agg #[.bool a1.neg, .slice (some ⟨b267, of268, none⟩) a1.mag.length c3], .int .i64 vt29, .agg #[.bool b5.neg, .slice A6 b5.mag.length c7], .int .i64 vt35, .int .i64 (w64 (vt29 + vt35)), .bool false, undef, .pointer (some ⟨b11, 1, none⟩), .slice (some ⟨b267, of268, none⟩) a1.mag.length c3, .int .i64 (a1.mag.length : Int), .pointer (some ⟨b15, 1, none⟩), .slice A6 b5.mag.length c7, .int .i64 (b5.mag.length : Int), .int .i64 (w64 ((a1.mag.length : Int) + (b5.mag.length : Int))), .slice (some ⟨b51, 0, none⟩) (List.replicate (w64 ((a1.mag.length : Int) + (b5.mag.length : Int))).toNat (0 : Int)).length (w64 ((a1.mag.length : Int) + (b5.mag.length : Int))).toNat, .pointer (some ⟨b11, 1, none⟩), .slice (some ⟨b267, of268, none⟩) a1.mag.length c3, .int .i64 (a1.mag.length : Int), .int .i64 x245, .bool true, .int .i64 x245, .pointer (some ⟨b267, of268 + (x245 : Int).toNat * 1, none⟩), .int .u32 (rd a1.mag x245), .pointer (some ⟨b15, 1, none⟩), .slice A6 b5.mag.length c7, .int .i64 (b5.mag.length : Int), (j383 2), (j383 3), (j383 4), (j383 5), (j383 6), (j383 7), (j383 8), (j383 9), (j383 10), (j383 11), (j383 12), (j383 13), (j383 14), (j383 15), (j383 16), (j383 17), (j383 18), (j383 19), (j383 20), (j383 21), (j383 22), (j383 23), (j383 24), (j383 25), (j383 26), (j383 27), (j383 28), (j383 29), (j383 30), (j383 31), (j240 42), (j240 43), (j240 44), (j240 45), (j240 46), (j240 47), (j240 48), (j240 49), (j240 50), (j240 51), undef, undef, undef, undef, undef, undef, undef, undef, undef], []⟩ → K271 a_ W381 := by
        intro f379 s385 out384 c388 j383 W381 a_ L380 hj391 HS382 HO386 HL387 hfr_; subst hfr_
        injection hj391 with hj391; subst hj391; try dsimp only at h
        refine hK272 _ _ ?_
        refine wp_region_lit ?_
        refine seqL3 (by kernel_rfl) ?_
        refine seqK rfl (does_run (run_load rfl Try.underlying51 rfl (by kernel_rfl : _ = Value.pointer (some ⟨b15, 1, none⟩)) (HS382.u2.cell 1)) ?_)
        have hq_ := guard_some h; clear h; obtain ⟨c392, h⟩ := hq_
        have c392 : 0 ≤ (w64 (x245 + (b5.mag.length : Int))) := c392
        have hq_ := guard_some h; clear h; obtain ⟨c393, h⟩ := hq_
        have c393 : (w64 (x245 + (b5.mag.length : Int))) < (out384.length : Int) := c393
        obtain ⟨cs394, hr395, hc396⟩ := HO386.at' (i := w64 (x245 + (b5.mag.length : Int))) c392 c393
        obtain rfl := hr395
        refine seqL4 (by kernel_rfl) ?_
        refine seqK rfl (does_run (run_index (sz := 1) rfl Try.underlying51 (by kernel_rfl) (by kernel_rfl : _ = Value.slice (some ⟨b51, 0, none⟩) out384.length (w64 ((a1.mag.length : Int) + (b5.mag.length : Int))).toNat) (by kernel_rfl : _ = Value.int .i64 (w64 (x245 + (b5.mag.length : Int)))) c392 c393 W381) ?_)
        refine seqK rfl (does_put (e := (tInt .u32)) (E := 86) (vs := [.int .u32 (u32 (c388))]) (u := u32 (c388)) (i := w64 (x245 + (b5.mag.length : Int))) rfl (by kernel_rfl) HO386 HS382 rfl (by kernel_rfl : _ = Value.pointer (some ⟨b51, 0 + (w64 (x245 + (b5.mag.length : Int)) : Int).toNat * 1, none⟩)) (by kernel_rfl : _ = Value.int .u32 (u32 (c388))) rfl rfl c392 c393 ?_)
        intro W397 s398 HS399 HO400
        refine seqRwS 6 (A := (some ⟨b51, 0, none⟩)) (m := out384.length) (n := (out384.set (w64 (x245 + (b5.mag.length : Int))).toNat (u32 (c388))).length) (c := (w64 ((a1.mag.length : Int) + (b5.mag.length : Int))).toNat) (by kernel_rfl) (List.length_set).symm ?_
        refine seqRwS 68 (A := (some ⟨b51, 0, none⟩)) (m := out384.length) (n := (out384.set (w64 (x245 + (b5.mag.length : Int))).toNat (u32 (c388))).length) (c := (w64 ((a1.mag.length : Int) + (b5.mag.length : Int))).toNat) (by kernel_rfl) (List.length_set).symm ?_
        refine wpList_nil ?_
        refine hn256 _ _ ?_
        refine hK253 _ _ ?_
        refine wp_region_lit ?_
        refine seqS2 (a' := ⟨#[.agg #[.bool a1.neg, .slice (some ⟨b267, of268, none⟩) a1.mag.length c3], .agg #[.bool b5.neg, .slice A6 b5.mag.length c7], .pointer (some ⟨b11, 0, none⟩), .pointer (some ⟨b15, 0, none⟩), .pointer (some ⟨b19, 0, none⟩), .int .i64 0, .slice (some ⟨b51, 0, none⟩) (out384.set (w64 (x245 + (b5.mag.length : Int))).toNat (u32 (c388))).length (w64 ((a1.mag.length : Int) + (b5.mag.length : Int))).toNat, .int .i64 x245, .int .u32 (rd a1.mag x245), .int .u64 c388, (j383 0), (j383 1), .agg #[.bool a1.neg, .slice (some ⟨b267, of268, none⟩) a1.mag.length c3], .int .i64 vt29, .agg #[.bool b5.neg, .slice A6 b5.mag.length c7], .int .i64 vt35, .int .i64 (w64 (vt29 + vt35)), .bool false, undef, .pointer (some ⟨b11, 1, none⟩), .slice (some ⟨b267, of268, none⟩) a1.mag.length c3, .int .i64 (a1.mag.length : Int), .pointer (some ⟨b15, 1, none⟩), .slice A6 b5.mag.length c7, .int .i64 (b5.mag.length : Int), .int .i64 (w64 ((a1.mag.length : Int) + (b5.mag.length : Int))), .slice (some ⟨b51, 0, none⟩) (List.replicate (w64 ((a1.mag.length : Int) + (b5.mag.length : Int))).toNat (0 : Int)).length (w64 ((a1.mag.length : Int) + (b5.mag.length : Int))).toNat, .pointer (some ⟨b11, 1, none⟩), .slice (some ⟨b267, of268, none⟩) a1.mag.length c3, .int .i64 (a1.mag.length : Int), .int .i64 (w64 (x245 + 1)), .bool true, .int .i64 x245, .pointer (some ⟨b267, of268 + (x245 : Int).toNat * 1, none⟩), .int .u32 (rd a1.mag x245), .pointer (some ⟨b15, 1, none⟩), .slice A6 b5.mag.length c7, .int .i64 (b5.mag.length : Int), (j383 2), (j383 3), (j383 4), (j383 5), (j383 6), (j383 7), (j383 8), (j383 9), (j383 10), (j383 11), (j383 12), (j383 13), (j383 14), (j383 15), (j383 16), (j383 17), (j383 18), (j383 19), (j383 20), (j383 21), (j383 22), (j383 23), (j383 24), (j383 25), (j383 26), (j383 27), (j383 28), (j383 29), (j383 30), (j383 31), .slice (some ⟨b51, 0, none⟩) (out384.set (w64 (x245 + (b5.mag.length : Int))).toNat (u32 (c388))).length (w64 ((a1.mag.length : Int) + (b5.mag.length : Int))).toNat, .int .i64 x245, .pointer (some ⟨b15, 1, none⟩), .slice A6 b5.mag.length c7, .int .i64 (b5.mag.length : Int), .int .i64 (w64 (x245 + (b5.mag.length : Int))), .int .u64 c388, .int .u32 (u32 (c388)), .pointer (some ⟨b51, 0 + (w64 (x245 + (b5.mag.length : Int)) : Int).toNat * 1, none⟩), .int .i64 (w64 (x245 + 1)), undef, undef, undef, undef, undef, undef, undef, undef, undef], []⟩) (by kernel_rfl) ?_
        refine wpList_nil ?_
        refine hK234 n235 _ _ (Nat.lt_succ_self _) ?_
        exact ⟨f379, s398, (out384.set (w64 (x245 + (b5.mag.length : Int))).toNat (u32 (c388))), (w64 (x245 + 1)), (fun i_ => [Value.int .i64 x245, Value.int .u32 (rd a1.mag x245), Value.int .u64 c388, (j383 0), (j383 1), Value.bool true, Value.int .i64 x245, Value.pointer (some ⟨b267, of268 + (x245 : Int).toNat * 1, none⟩), Value.int .u32 (rd a1.mag x245), Value.pointer (some ⟨b15, 1, none⟩), Value.slice A6 b5.mag.length c7, Value.int .i64 (b5.mag.length : Int), (j383 2), (j383 3), (j383 4), (j383 5), (j383 6), (j383 7), (j383 8), (j383 9), (j383 10), (j383 11), (j383 12), (j383 13), (j383 14), (j383 15), (j383 16), (j383 17), (j383 18), (j383 19), (j383 20), (j383 21), (j383 22), (j383 23), (j383 24), (j383 25), (j383 26), (j383 27), (j383 28), (j383 29), (j383 30), (j383 31), Value.slice (some ⟨b51, 0, none⟩) (out384.set (w64 (x245 + (b5.mag.length : Int))).toNat (u32 (c388))).length (w64 ((a1.mag.length : Int) + (b5.mag.length : Int))).toNat, Value.int .i64 x245, Value.pointer (some ⟨b15, 1, none⟩), Value.slice A6 b5.mag.length c7, Value.int .i64 (b5.mag.length : Int), Value.int .i64 (w64 (x245 + (b5.mag.length : Int))), Value.int .u64 c388, Value.int .u32 (u32 (c388)), Value.pointer (some ⟨b51, 0 + (w64 (x245 + (b5.mag.length : Int)) : Int).toNat * 1, none⟩), Value.int .i64 (w64 (x245 + 1))].getD i_ undef), (L237.trans L380), HS399, HO400, (List.length_set.trans (HL387.trans HL244)), h, (by kernel_rfl)⟩
      clear h; have h := hv389; clear hv389
      refine loopK (fun n_ a_ w_ => ∃ (f332 : FM) (s338 : Seg) (out337 : List Int) (c341 : Int) (x342 : Int) (j336 : Nat → Value), FM.le f236 f332 ∧ St t w_ f332 (s338 :: [(b19, .cells #[.bool false, .slice none 0 0] 53 (0, 0))] :: [(b15, .cells #[.bool b5.neg, .slice A6 b5.mag.length c7] 53 (0, 0))] :: [(b11, .cells #[.bool a1.neg, .slice (some ⟨b267, of268, none⟩) a1.mag.length c3] 53 (0, 0))] :: H) ∧ Own (tInt .u32) 86 f332 (some ⟨b51, 0, none⟩) (w64 ((a1.mag.length : Int) + (b5.mag.length : Int))).toNat s338 out337 ∧ out337.length = out241.length ∧ big_Mul.l1 k b5 x245 a1 n_ out337 c341 x342 = some o328 ∧ a_ = ⟨#[.agg #[.bool a1.neg, .slice (some ⟨b267, of268, none⟩) a1.mag.length c3], .agg #[.bool b5.neg, .slice A6 b5.mag.length c7], .pointer (some ⟨b11, 0, none⟩), .pointer (some ⟨b15, 0, none⟩), .pointer (some ⟨b19, 0, none⟩), .int .i64 0, .slice (some ⟨b51, 0, none⟩) out337.length (w64 ((a1.mag.length : Int) + (b5.mag.length : Int))).toNat, .int .i64 x245, .int .u32 (rd a1.mag x245), .int .u64 c341, (j336 0), (j336 1), .agg #[.bool a1.neg, .slice (some ⟨b267, of268, none⟩) a1.mag.length c3], .int .i64 vt29, .agg #[.bool b5.neg, .slice A6 b5.mag.length c7], .int .i64 vt35, .int .i64 (w64 (vt29 + vt35)), .bool false, undef, .pointer (some ⟨b11, 1, none⟩), .slice (some ⟨b267, of268, none⟩) a1.mag.length c3, .int .i64 (a1.mag.length : Int), .pointer (some ⟨b15, 1, none⟩), .slice A6 b5.mag.length c7, .int .i64 (b5.mag.length : Int), .int .i64 (w64 ((a1.mag.length : Int) + (b5.mag.length : Int))), .slice (some ⟨b51, 0, none⟩) (List.replicate (w64 ((a1.mag.length : Int) + (b5.mag.length : Int))).toNat (0 : Int)).length (w64 ((a1.mag.length : Int) + (b5.mag.length : Int))).toNat, .pointer (some ⟨b11, 1, none⟩), .slice (some ⟨b267, of268, none⟩) a1.mag.length c3, .int .i64 (a1.mag.length : Int), .int .i64 x245, .bool true, .int .i64 x245, .pointer (some ⟨b267, of268 + (x245 : Int).toNat * 1, none⟩), .int .u32 (rd a1.mag x245), .pointer (some ⟨b15, 1, none⟩), .slice A6 b5.mag.length c7, .int .i64 (b5.mag.length : Int), .int .i64 x342, (j336 2), (j336 3), (j336 4), (j336 5), (j336 6), (j336 7), (j336 8), (j336 9), (j336 10), (j336 11), (j336 12), (j336 13), (j336 14), (j336 15), (j336 16), (j336 17), (j336 18), (j336 19), (j336 20), (j336 21), (j336 22), (j336 23), (j336 24), (j336 25), (j336 26), (j336 27), (j336 28), (j336 29), (j336 30), (j240 42), (j240 43), (j240 44), (j240 45), (j240 46), (j240 47), (j240 48), (j240 49), (j240 50), (j240 51), undef, undef, undef, undef, undef, undef, undef, undef, undef], []⟩) k ⟨f236, s242, out241, 0, 0, (fun i_ => [(j240 3), (j240 4), (j240 13), (j240 14), (j240 15), (j240 16), (j240 17), (j240 18), (j240 19), (j240 20), (j240 21), (j240 22), (j240 23), (j240 24), (j240 25), (j240 26), (j240 27), (j240 28), (j240 29), (j240 30), (j240 31), (j240 32), (j240 33), (j240 34), (j240 35), (j240 36), (j240 37), (j240 38), (j240 39), (j240 40), (j240 41)].getD i_ undef), (FM.le.refl _), HS239, HO243, rfl, h, (by kernel_rfl)⟩ ?_
      clear h
      rintro n331 _ W334 ⟨f332, s338, out337, c341, x342, j336, L333, HS335, HO339, HL340, h, rfl⟩ K329 hK330
      obtain _ | n331 := n331
      · exact nomatch h
      simp only [big_Mul.l1] at h
      refine wp_seq_k (fun K343 hK344 => ?_)
      refine wp_region_lit ?_
      refine seqS1 (a' := ⟨#[.agg #[.bool a1.neg, .slice (some ⟨b267, of268, none⟩) a1.mag.length c3], .agg #[.bool b5.neg, .slice A6 b5.mag.length c7], .pointer (some ⟨b11, 0, none⟩), .pointer (some ⟨b15, 0, none⟩), .pointer (some ⟨b19, 0, none⟩), .int .i64 0, .slice (some ⟨b51, 0, none⟩) out337.length (w64 ((a1.mag.length : Int) + (b5.mag.length : Int))).toNat, .int .i64 x245, .int .u32 (rd a1.mag x245), .int .u64 c341, (j336 0), (j336 1), .agg #[.bool a1.neg, .slice (some ⟨b267, of268, none⟩) a1.mag.length c3], .int .i64 vt29, .agg #[.bool b5.neg, .slice A6 b5.mag.length c7], .int .i64 vt35, .int .i64 (w64 (vt29 + vt35)), .bool false, undef, .pointer (some ⟨b11, 1, none⟩), .slice (some ⟨b267, of268, none⟩) a1.mag.length c3, .int .i64 (a1.mag.length : Int), .pointer (some ⟨b15, 1, none⟩), .slice A6 b5.mag.length c7, .int .i64 (b5.mag.length : Int), .int .i64 (w64 ((a1.mag.length : Int) + (b5.mag.length : Int))), .slice (some ⟨b51, 0, none⟩) (List.replicate (w64 ((a1.mag.length : Int) + (b5.mag.length : Int))).toNat (0 : Int)).length (w64 ((a1.mag.length : Int) + (b5.mag.length : Int))).toNat, .pointer (some ⟨b11, 1, none⟩), .slice (some ⟨b267, of268, none⟩) a1.mag.length c3, .int .i64 (a1.mag.length : Int), .int .i64 x245, .bool true, .int .i64 x245, .pointer (some ⟨b267, of268 + (x245 : Int).toNat * 1, none⟩), .int .u32 (rd a1.mag x245), .pointer (some ⟨b15, 1, none⟩), .slice A6 b5.mag.length c7, .int .i64 (b5.mag.length : Int), .int .i64 x342, .bool (decide (x342 < (b5.mag.length : Int))), (j336 3), (j336 4), (j336 5), (j336 6), (j336 7), (j336 8), (j336 9), (j336 10), (j336 11), (j336 12), (j336 13), (j336 14), (j336 15), (j336 16), (j336 17), (j336 18), (j336 19), (j336 20), (j336 21), (j336 22), (j336 23), (j336 24), (j336 25), (j336 26), (j336 27), (j336 28), (j336 29), (j336 30), (j240 42), (j240 43), (j240 44), (j240 45), (j240 46), (j240 47), (j240 48), (j240 49), (j240 50), (j240 51), undef, undef, undef, undef, undef, undef, undef, undef, undef], []⟩) (by kernel_rfl) ?_
      refine wpList_nil ?_
      refine hK344 _ _ ?_
      refine wp_seq_k (fun K345 hK346 => ?_)
      have hq_ := ite_some h; clear h; rcases hq_ with ⟨c348, h⟩ | ⟨c348, h⟩
      · have c348 : x342 < (b5.mag.length : Int) := c348
        refine wpRwI 39 (x := (decide (x342 < (b5.mag.length : Int)))) (v := true) (by kernel_rfl) (decide_eq_true c348) ?_
        refine condT (by kernel_rfl) ?_
        refine wp_skip ?_
        refine hK346 _ _ ?_
        refine wp_seq_k (fun K349 hK350 => ?_)
        refine blockK (fun B351 hx352 hn353 hr354 ho355 hp356 => ?_)
        refine wp_seq_k (fun K358 hK359 => ?_)
        refine wp_region_lit ?_
        have hq_ := guard_some h; clear h; obtain ⟨c360, h⟩ := hq_
        have c360 : 0 ≤ x342 := c360
        obtain ⟨b364, of365, cs361, rfl, hr362, hc363⟩ := (HR8.mono (L32.trans (L38.trans (L237.trans L333)))).at (i := x342) c360 c348
        obtain rfl := hr362
        refine seqL1 (by kernel_rfl) ?_
        refine seqK rfl (does_run (run_index (sz := 1) rfl Try.underlying51 (by kernel_rfl) (by kernel_rfl : _ = Value.slice (some ⟨b364, of365, none⟩) b5.mag.length c7) (by kernel_rfl : _ = Value.int .i64 x342) c360 c348 W334) ?_)
        refine seqK rfl (does_run (run_load rfl Try.underlying86 rfl (by kernel_rfl : _ = Value.pointer (some ⟨b364, of365 + (x342 : Int).toNat * 1, none⟩)) ((hc363 (FM.le.refl _) HS335) 0 (by decide))) ?_)
        refine seqS2 (a' := ⟨#[.agg #[.bool a1.neg, .slice (some ⟨b267, of268, none⟩) a1.mag.length c3], .agg #[.bool b5.neg, .slice (some ⟨b364, of365, none⟩) b5.mag.length c7], .pointer (some ⟨b11, 0, none⟩), .pointer (some ⟨b15, 0, none⟩), .pointer (some ⟨b19, 0, none⟩), .int .i64 0, .slice (some ⟨b51, 0, none⟩) out337.length (w64 ((a1.mag.length : Int) + (b5.mag.length : Int))).toNat, .int .i64 x245, .int .u32 (rd a1.mag x245), .int .u64 c341, .int .i64 x342, .int .u32 (rd b5.mag x342), .agg #[.bool a1.neg, .slice (some ⟨b267, of268, none⟩) a1.mag.length c3], .int .i64 vt29, .agg #[.bool b5.neg, .slice (some ⟨b364, of365, none⟩) b5.mag.length c7], .int .i64 vt35, .int .i64 (w64 (vt29 + vt35)), .bool false, undef, .pointer (some ⟨b11, 1, none⟩), .slice (some ⟨b267, of268, none⟩) a1.mag.length c3, .int .i64 (a1.mag.length : Int), .pointer (some ⟨b15, 1, none⟩), .slice (some ⟨b364, of365, none⟩) b5.mag.length c7, .int .i64 (b5.mag.length : Int), .int .i64 (w64 ((a1.mag.length : Int) + (b5.mag.length : Int))), .slice (some ⟨b51, 0, none⟩) (List.replicate (w64 ((a1.mag.length : Int) + (b5.mag.length : Int))).toNat (0 : Int)).length (w64 ((a1.mag.length : Int) + (b5.mag.length : Int))).toNat, .pointer (some ⟨b11, 1, none⟩), .slice (some ⟨b267, of268, none⟩) a1.mag.length c3, .int .i64 (a1.mag.length : Int), .int .i64 x245, .bool true, .int .i64 x245, .pointer (some ⟨b267, of268 + (x245 : Int).toNat * 1, none⟩), .int .u32 (rd a1.mag x245), .pointer (some ⟨b15, 1, none⟩), .slice (some ⟨b364, of365, none⟩) b5.mag.length c7, .int .i64 (b5.mag.length : Int), .int .i64 x342, .bool true, .int .i64 x342, .pointer (some ⟨b364, of365 + (x342 : Int).toNat * 1, none⟩), .int .u32 (rd b5.mag x342), (j336 6), (j336 7), (j336 8), (j336 9), (j336 10), (j336 11), (j336 12), (j336 13), (j336 14), (j336 15), (j336 16), (j336 17), (j336 18), (j336 19), (j336 20), (j336 21), (j336 22), (j336 23), (j336 24), (j336 25), (j336 26), (j336 27), (j336 28), (j336 29), (j336 30), (j240 42), (j240 43), (j240 44), (j240 45), (j240 46), (j240 47), (j240 48), (j240 49), (j240 50), (j240 51), undef, undef, undef, undef, undef, undef, undef, undef, undef], []⟩) (by kernel_rfl) ?_
        refine wpList_nil ?_
        refine hK359 _ _ ?_
        refine wp_seq_k (fun K366 hK367 => ?_)
        refine wp_region_lit ?_
        have hq_ := guard_some h; clear h; obtain ⟨c368, h⟩ := hq_
        have c368 : 0 ≤ (w64 (x245 + x342)) := c368
        have hq_ := guard_some h; clear h; obtain ⟨c369, h⟩ := hq_
        have c369 : (w64 (x245 + x342)) < (out337.length : Int) := c369
        obtain ⟨cs370, hr371, hc372⟩ := HO339.at' (i := w64 (x245 + x342)) c368 c369
        obtain rfl := hr371
        refine seqL10 (by kernel_rfl) ?_
        refine seqK rfl (does_run (run_index (sz := 1) rfl Try.underlying51 (by kernel_rfl) (by kernel_rfl : _ = Value.slice (some ⟨b51, 0, none⟩) out337.length (w64 ((a1.mag.length : Int) + (b5.mag.length : Int))).toNat) (by kernel_rfl : _ = Value.int .i64 (w64 (x245 + x342))) c368 c369 W334) ?_)
        refine seqK rfl (does_run (run_load rfl Try.underlying86 rfl (by kernel_rfl : _ = Value.pointer (some ⟨b51, 0 + (w64 (x245 + x342) : Int).toNat * 1, none⟩)) ((hc372 HS335) 0 (by decide))) ?_)
        refine seqS4 (a' := ⟨#[.agg #[.bool a1.neg, .slice (some ⟨b267, of268, none⟩) a1.mag.length c3], .agg #[.bool b5.neg, .slice (some ⟨b364, of365, none⟩) b5.mag.length c7], .pointer (some ⟨b11, 0, none⟩), .pointer (some ⟨b15, 0, none⟩), .pointer (some ⟨b19, 0, none⟩), .int .i64 0, .slice (some ⟨b51, 0, none⟩) out337.length (w64 ((a1.mag.length : Int) + (b5.mag.length : Int))).toNat, .int .i64 x245, .int .u32 (rd a1.mag x245), .int .u64 (u64 (c341 + (u64 ((u64 ((u64 ((rd a1.mag x245))) * (u64 ((rd b5.mag x342))))) + (u64 ((rd out337 (w64 (x245 + x342))))))))), .int .i64 x342, .int .u32 (rd b5.mag x342), .agg #[.bool a1.neg, .slice (some ⟨b267, of268, none⟩) a1.mag.length c3], .int .i64 vt29, .agg #[.bool b5.neg, .slice (some ⟨b364, of365, none⟩) b5.mag.length c7], .int .i64 vt35, .int .i64 (w64 (vt29 + vt35)), .bool false, undef, .pointer (some ⟨b11, 1, none⟩), .slice (some ⟨b267, of268, none⟩) a1.mag.length c3, .int .i64 (a1.mag.length : Int), .pointer (some ⟨b15, 1, none⟩), .slice (some ⟨b364, of365, none⟩) b5.mag.length c7, .int .i64 (b5.mag.length : Int), .int .i64 (w64 ((a1.mag.length : Int) + (b5.mag.length : Int))), .slice (some ⟨b51, 0, none⟩) (List.replicate (w64 ((a1.mag.length : Int) + (b5.mag.length : Int))).toNat (0 : Int)).length (w64 ((a1.mag.length : Int) + (b5.mag.length : Int))).toNat, .pointer (some ⟨b11, 1, none⟩), .slice (some ⟨b267, of268, none⟩) a1.mag.length c3, .int .i64 (a1.mag.length : Int), .int .i64 x245, .bool true, .int .i64 x245, .pointer (some ⟨b267, of268 + (x245 : Int).toNat * 1, none⟩), .int .u32 (rd a1.mag x245), .pointer (some ⟨b15, 1, none⟩), .slice (some ⟨b364, of365, none⟩) b5.mag.length c7, .int .i64 (b5.mag.length : Int), .int .i64 x342, .bool true, .int .i64 x342, .pointer (some ⟨b364, of365 + (x342 : Int).toNat * 1, none⟩), .int .u32 (rd b5.mag x342), .int .u64 c341, .int .u32 (rd a1.mag x245), .int .u64 (u64 ((rd a1.mag x245))), .int .u32 (rd b5.mag x342), .int .u64 (u64 ((rd b5.mag x342))), .int .u64 (u64 ((u64 ((rd a1.mag x245))) * (u64 ((rd b5.mag x342))))), .slice (some ⟨b51, 0, none⟩) out337.length (w64 ((a1.mag.length : Int) + (b5.mag.length : Int))).toNat, .int .i64 x245, .int .i64 x342, .int .i64 (w64 (x245 + x342)), .pointer (some ⟨b51, 0 + (w64 (x245 + x342) : Int).toNat * 1, none⟩), .int .u32 (rd out337 (w64 (x245 + x342))), .int .u64 (u64 ((rd out337 (w64 (x245 + x342))))), .int .u64 (u64 ((u64 ((u64 ((rd a1.mag x245))) * (u64 ((rd b5.mag x342))))) + (u64 ((rd out337 (w64 (x245 + x342))))))), .int .u64 (u64 (c341 + (u64 ((u64 ((u64 ((rd a1.mag x245))) * (u64 ((rd b5.mag x342))))) + (u64 ((rd out337 (w64 (x245 + x342))))))))), (j336 21), (j336 22), (j336 23), (j336 24), (j336 25), (j336 26), (j336 27), (j336 28), (j336 29), (j336 30), (j240 42), (j240 43), (j240 44), (j240 45), (j240 46), (j240 47), (j240 48), (j240 49), (j240 50), (j240 51), undef, undef, undef, undef, undef, undef, undef, undef, undef], []⟩) (by kernel_rfl) ?_
        refine wpList_nil ?_
        refine hK367 _ _ ?_
        refine wp_seq_k (fun K373 hK374 => ?_)
        refine wp_region_lit ?_
        refine seqL6 (by kernel_rfl) ?_
        refine seqK rfl (does_run (run_index (sz := 1) rfl Try.underlying51 (by kernel_rfl) (by kernel_rfl : _ = Value.slice (some ⟨b51, 0, none⟩) out337.length (w64 ((a1.mag.length : Int) + (b5.mag.length : Int))).toNat) (by kernel_rfl : _ = Value.int .i64 (w64 (x245 + x342))) c368 c369 W334) ?_)
        refine seqK rfl (does_put (e := (tInt .u32)) (E := 86) (vs := [.int .u32 (u32 (u64 (c341 + (u64 ((u64 ((u64 ((rd a1.mag x245))) * (u64 ((rd b5.mag x342))))) + (u64 ((rd out337 (w64 (x245 + x342))))))))))]) (u := u32 (u64 (c341 + (u64 ((u64 ((u64 ((rd a1.mag x245))) * (u64 ((rd b5.mag x342))))) + (u64 ((rd out337 (w64 (x245 + x342)))))))))) (i := w64 (x245 + x342)) rfl (by kernel_rfl) HO339 HS335 rfl (by kernel_rfl : _ = Value.pointer (some ⟨b51, 0 + (w64 (x245 + x342) : Int).toNat * 1, none⟩)) (by kernel_rfl : _ = Value.int .u32 (u32 (u64 (c341 + (u64 ((u64 ((u64 ((rd a1.mag x245))) * (u64 ((rd b5.mag x342))))) + (u64 ((rd out337 (w64 (x245 + x342))))))))))) rfl rfl c368 c369 ?_)
        intro W375 s376 HS377 HO378
        refine seqRwS 6 (A := (some ⟨b51, 0, none⟩)) (m := out337.length) (n := (out337.set (w64 (x245 + x342)).toNat (u32 (u64 (c341 + (u64 ((u64 ((u64 ((rd a1.mag x245))) * (u64 ((rd b5.mag x342))))) + (u64 ((rd out337 (w64 (x245 + x342))))))))))).length) (c := (w64 ((a1.mag.length : Int) + (b5.mag.length : Int))).toNat) (by kernel_rfl) (List.length_set).symm ?_
        refine seqRwS 49 (A := (some ⟨b51, 0, none⟩)) (m := out337.length) (n := (out337.set (w64 (x245 + x342)).toNat (u32 (u64 (c341 + (u64 ((u64 ((u64 ((rd a1.mag x245))) * (u64 ((rd b5.mag x342))))) + (u64 ((rd out337 (w64 (x245 + x342))))))))))).length) (c := (w64 ((a1.mag.length : Int) + (b5.mag.length : Int))).toNat) (by kernel_rfl) (List.length_set).symm ?_
        refine seqRwS 58 (A := (some ⟨b51, 0, none⟩)) (m := out337.length) (n := (out337.set (w64 (x245 + x342)).toNat (u32 (u64 (c341 + (u64 ((u64 ((u64 ((rd a1.mag x245))) * (u64 ((rd b5.mag x342))))) + (u64 ((rd out337 (w64 (x245 + x342))))))))))).length) (c := (w64 ((a1.mag.length : Int) + (b5.mag.length : Int))).toNat) (by kernel_rfl) (List.length_set).symm ?_
        refine wpList_nil ?_
        refine hK374 _ _ ?_
        refine wp_region_lit ?_
        refine seqS3 (a' := ⟨#[.agg #[.bool a1.neg, .slice (some ⟨b267, of268, none⟩) a1.mag.length c3], .agg #[.bool b5.neg, .slice (some ⟨b364, of365, none⟩) b5.mag.length c7], .pointer (some ⟨b11, 0, none⟩), .pointer (some ⟨b15, 0, none⟩), .pointer (some ⟨b19, 0, none⟩), .int .i64 0, .slice (some ⟨b51, 0, none⟩) (out337.set (w64 (x245 + x342)).toNat (u32 (u64 (c341 + (u64 ((u64 ((u64 ((rd a1.mag x245))) * (u64 ((rd b5.mag x342))))) + (u64 ((rd out337 (w64 (x245 + x342))))))))))).length (w64 ((a1.mag.length : Int) + (b5.mag.length : Int))).toNat, .int .i64 x245, .int .u32 (rd a1.mag x245), .int .u64 (shr (u64 (c341 + (u64 ((u64 ((u64 ((rd a1.mag x245))) * (u64 ((rd b5.mag x342))))) + (u64 ((rd out337 (w64 (x245 + x342))))))))) 32), .int .i64 x342, .int .u32 (rd b5.mag x342), .agg #[.bool a1.neg, .slice (some ⟨b267, of268, none⟩) a1.mag.length c3], .int .i64 vt29, .agg #[.bool b5.neg, .slice (some ⟨b364, of365, none⟩) b5.mag.length c7], .int .i64 vt35, .int .i64 (w64 (vt29 + vt35)), .bool false, undef, .pointer (some ⟨b11, 1, none⟩), .slice (some ⟨b267, of268, none⟩) a1.mag.length c3, .int .i64 (a1.mag.length : Int), .pointer (some ⟨b15, 1, none⟩), .slice (some ⟨b364, of365, none⟩) b5.mag.length c7, .int .i64 (b5.mag.length : Int), .int .i64 (w64 ((a1.mag.length : Int) + (b5.mag.length : Int))), .slice (some ⟨b51, 0, none⟩) (List.replicate (w64 ((a1.mag.length : Int) + (b5.mag.length : Int))).toNat (0 : Int)).length (w64 ((a1.mag.length : Int) + (b5.mag.length : Int))).toNat, .pointer (some ⟨b11, 1, none⟩), .slice (some ⟨b267, of268, none⟩) a1.mag.length c3, .int .i64 (a1.mag.length : Int), .int .i64 x245, .bool true, .int .i64 x245, .pointer (some ⟨b267, of268 + (x245 : Int).toNat * 1, none⟩), .int .u32 (rd a1.mag x245), .pointer (some ⟨b15, 1, none⟩), .slice (some ⟨b364, of365, none⟩) b5.mag.length c7, .int .i64 (b5.mag.length : Int), .int .i64 x342, .bool true, .int .i64 x342, .pointer (some ⟨b364, of365 + (x342 : Int).toNat * 1, none⟩), .int .u32 (rd b5.mag x342), .int .u64 c341, .int .u32 (rd a1.mag x245), .int .u64 (u64 ((rd a1.mag x245))), .int .u32 (rd b5.mag x342), .int .u64 (u64 ((rd b5.mag x342))), .int .u64 (u64 ((u64 ((rd a1.mag x245))) * (u64 ((rd b5.mag x342))))), .slice (some ⟨b51, 0, none⟩) (out337.set (w64 (x245 + x342)).toNat (u32 (u64 (c341 + (u64 ((u64 ((u64 ((rd a1.mag x245))) * (u64 ((rd b5.mag x342))))) + (u64 ((rd out337 (w64 (x245 + x342))))))))))).length (w64 ((a1.mag.length : Int) + (b5.mag.length : Int))).toNat, .int .i64 x245, .int .i64 x342, .int .i64 (w64 (x245 + x342)), .pointer (some ⟨b51, 0 + (w64 (x245 + x342) : Int).toNat * 1, none⟩), .int .u32 (rd out337 (w64 (x245 + x342))), .int .u64 (u64 ((rd out337 (w64 (x245 + x342))))), .int .u64 (u64 ((u64 ((u64 ((rd a1.mag x245))) * (u64 ((rd b5.mag x342))))) + (u64 ((rd out337 (w64 (x245 + x342))))))), .int .u64 (u64 (c341 + (u64 ((u64 ((u64 ((rd a1.mag x245))) * (u64 ((rd b5.mag x342))))) + (u64 ((rd out337 (w64 (x245 + x342))))))))), .slice (some ⟨b51, 0, none⟩) (out337.set (w64 (x245 + x342)).toNat (u32 (u64 (c341 + (u64 ((u64 ((u64 ((rd a1.mag x245))) * (u64 ((rd b5.mag x342))))) + (u64 ((rd out337 (w64 (x245 + x342))))))))))).length (w64 ((a1.mag.length : Int) + (b5.mag.length : Int))).toNat, .int .i64 x245, .int .i64 x342, .int .i64 (w64 (x245 + x342)), .int .u64 (u64 (c341 + (u64 ((u64 ((u64 ((rd a1.mag x245))) * (u64 ((rd b5.mag x342))))) + (u64 ((rd out337 (w64 (x245 + x342))))))))), .int .u32 (u32 (u64 (c341 + (u64 ((u64 ((u64 ((rd a1.mag x245))) * (u64 ((rd b5.mag x342))))) + (u64 ((rd out337 (w64 (x245 + x342)))))))))), .pointer (some ⟨b51, 0 + (w64 (x245 + x342) : Int).toNat * 1, none⟩), .int .u64 (u64 (c341 + (u64 ((u64 ((u64 ((rd a1.mag x245))) * (u64 ((rd b5.mag x342))))) + (u64 ((rd out337 (w64 (x245 + x342))))))))), .int .u64 (shr (u64 (c341 + (u64 ((u64 ((u64 ((rd a1.mag x245))) * (u64 ((rd b5.mag x342))))) + (u64 ((rd out337 (w64 (x245 + x342))))))))) 32), (j336 30), (j240 42), (j240 43), (j240 44), (j240 45), (j240 46), (j240 47), (j240 48), (j240 49), (j240 50), (j240 51), undef, undef, undef, undef, undef, undef, undef, undef, undef], []⟩) (by kernel_rfl) ?_
        refine wpList_nil ?_
        refine hn353 _ _ ?_
        refine hK350 _ _ ?_
        refine wp_region_lit ?_
        refine seqS2 (a' := ⟨#[.agg #[.bool a1.neg, .slice (some ⟨b267, of268, none⟩) a1.mag.length c3], .agg #[.bool b5.neg, .slice (some ⟨b364, of365, none⟩) b5.mag.length c7], .pointer (some ⟨b11, 0, none⟩), .pointer (some ⟨b15, 0, none⟩), .pointer (some ⟨b19, 0, none⟩), .int .i64 0, .slice (some ⟨b51, 0, none⟩) (out337.set (w64 (x245 + x342)).toNat (u32 (u64 (c341 + (u64 ((u64 ((u64 ((rd a1.mag x245))) * (u64 ((rd b5.mag x342))))) + (u64 ((rd out337 (w64 (x245 + x342))))))))))).length (w64 ((a1.mag.length : Int) + (b5.mag.length : Int))).toNat, .int .i64 x245, .int .u32 (rd a1.mag x245), .int .u64 (shr (u64 (c341 + (u64 ((u64 ((u64 ((rd a1.mag x245))) * (u64 ((rd b5.mag x342))))) + (u64 ((rd out337 (w64 (x245 + x342))))))))) 32), .int .i64 x342, .int .u32 (rd b5.mag x342), .agg #[.bool a1.neg, .slice (some ⟨b267, of268, none⟩) a1.mag.length c3], .int .i64 vt29, .agg #[.bool b5.neg, .slice (some ⟨b364, of365, none⟩) b5.mag.length c7], .int .i64 vt35, .int .i64 (w64 (vt29 + vt35)), .bool false, undef, .pointer (some ⟨b11, 1, none⟩), .slice (some ⟨b267, of268, none⟩) a1.mag.length c3, .int .i64 (a1.mag.length : Int), .pointer (some ⟨b15, 1, none⟩), .slice (some ⟨b364, of365, none⟩) b5.mag.length c7, .int .i64 (b5.mag.length : Int), .int .i64 (w64 ((a1.mag.length : Int) + (b5.mag.length : Int))), .slice (some ⟨b51, 0, none⟩) (List.replicate (w64 ((a1.mag.length : Int) + (b5.mag.length : Int))).toNat (0 : Int)).length (w64 ((a1.mag.length : Int) + (b5.mag.length : Int))).toNat, .pointer (some ⟨b11, 1, none⟩), .slice (some ⟨b267, of268, none⟩) a1.mag.length c3, .int .i64 (a1.mag.length : Int), .int .i64 x245, .bool true, .int .i64 x245, .pointer (some ⟨b267, of268 + (x245 : Int).toNat * 1, none⟩), .int .u32 (rd a1.mag x245), .pointer (some ⟨b15, 1, none⟩), .slice (some ⟨b364, of365, none⟩) b5.mag.length c7, .int .i64 (b5.mag.length : Int), .int .i64 (w64 (x342 + 1)), .bool true, .int .i64 x342, .pointer (some ⟨b364, of365 + (x342 : Int).toNat * 1, none⟩), .int .u32 (rd b5.mag x342), .int .u64 c341, .int .u32 (rd a1.mag x245), .int .u64 (u64 ((rd a1.mag x245))), .int .u32 (rd b5.mag x342), .int .u64 (u64 ((rd b5.mag x342))), .int .u64 (u64 ((u64 ((rd a1.mag x245))) * (u64 ((rd b5.mag x342))))), .slice (some ⟨b51, 0, none⟩) (out337.set (w64 (x245 + x342)).toNat (u32 (u64 (c341 + (u64 ((u64 ((u64 ((rd a1.mag x245))) * (u64 ((rd b5.mag x342))))) + (u64 ((rd out337 (w64 (x245 + x342))))))))))).length (w64 ((a1.mag.length : Int) + (b5.mag.length : Int))).toNat, .int .i64 x245, .int .i64 x342, .int .i64 (w64 (x245 + x342)), .pointer (some ⟨b51, 0 + (w64 (x245 + x342) : Int).toNat * 1, none⟩), .int .u32 (rd out337 (w64 (x245 + x342))), .int .u64 (u64 ((rd out337 (w64 (x245 + x342))))), .int .u64 (u64 ((u64 ((u64 ((rd a1.mag x245))) * (u64 ((rd b5.mag x342))))) + (u64 ((rd out337 (w64 (x245 + x342))))))), .int .u64 (u64 (c341 + (u64 ((u64 ((u64 ((rd a1.mag x245))) * (u64 ((rd b5.mag x342))))) + (u64 ((rd out337 (w64 (x245 + x342))))))))), .slice (some ⟨b51, 0, none⟩) (out337.set (w64 (x245 + x342)).toNat (u32 (u64 (c341 + (u64 ((u64 ((u64 ((rd a1.mag x245))) * (u64 ((rd b5.mag x342))))) + (u64 ((rd out337 (w64 (x245 + x342))))))))))).length (w64 ((a1.mag.length : Int) + (b5.mag.length : Int))).toNat, .int .i64 x245, .int .i64 x342, .int .i64 (w64 (x245 + x342)), .int .u64 (u64 (c341 + (u64 ((u64 ((u64 ((rd a1.mag x245))) * (u64 ((rd b5.mag x342))))) + (u64 ((rd out337 (w64 (x245 + x342))))))))), .int .u32 (u32 (u64 (c341 + (u64 ((u64 ((u64 ((rd a1.mag x245))) * (u64 ((rd b5.mag x342))))) + (u64 ((rd out337 (w64 (x245 + x342)))))))))), .pointer (some ⟨b51, 0 + (w64 (x245 + x342) : Int).toNat * 1, none⟩), .int .u64 (u64 (c341 + (u64 ((u64 ((u64 ((rd a1.mag x245))) * (u64 ((rd b5.mag x342))))) + (u64 ((rd out337 (w64 (x245 + x342))))))))), .int .u64 (shr (u64 (c341 + (u64 ((u64 ((u64 ((rd a1.mag x245))) * (u64 ((rd b5.mag x342))))) + (u64 ((rd out337 (w64 (x245 + x342))))))))) 32), .int .i64 (w64 (x342 + 1)), (j240 42), (j240 43), (j240 44), (j240 45), (j240 46), (j240 47), (j240 48), (j240 49), (j240 50), (j240 51), undef, undef, undef, undef, undef, undef, undef, undef, undef], []⟩) (by kernel_rfl) ?_
        refine wpList_nil ?_
        refine hK330 n331 _ _ (Nat.lt_succ_self _) ?_
        exact ⟨f332, s376, (out337.set (w64 (x245 + x342)).toNat (u32 (u64 (c341 + (u64 ((u64 ((u64 ((rd a1.mag x245))) * (u64 ((rd b5.mag x342))))) + (u64 ((rd out337 (w64 (x245 + x342))))))))))), (shr (u64 (c341 + (u64 ((u64 ((u64 ((rd a1.mag x245))) * (u64 ((rd b5.mag x342))))) + (u64 ((rd out337 (w64 (x245 + x342))))))))) 32), (w64 (x342 + 1)), (fun i_ => [Value.int .i64 x342, Value.int .u32 (rd b5.mag x342), Value.bool true, Value.int .i64 x342, Value.pointer (some ⟨b364, of365 + (x342 : Int).toNat * 1, none⟩), Value.int .u32 (rd b5.mag x342), Value.int .u64 c341, Value.int .u32 (rd a1.mag x245), Value.int .u64 (u64 ((rd a1.mag x245))), Value.int .u32 (rd b5.mag x342), Value.int .u64 (u64 ((rd b5.mag x342))), Value.int .u64 (u64 ((u64 ((rd a1.mag x245))) * (u64 ((rd b5.mag x342))))), Value.slice (some ⟨b51, 0, none⟩) (out337.set (w64 (x245 + x342)).toNat (u32 (u64 (c341 + (u64 ((u64 ((u64 ((rd a1.mag x245))) * (u64 ((rd b5.mag x342))))) + (u64 ((rd out337 (w64 (x245 + x342))))))))))).length (w64 ((a1.mag.length : Int) + (b5.mag.length : Int))).toNat, Value.int .i64 x245, Value.int .i64 x342, Value.int .i64 (w64 (x245 + x342)), Value.pointer (some ⟨b51, 0 + (w64 (x245 + x342) : Int).toNat * 1, none⟩), Value.int .u32 (rd out337 (w64 (x245 + x342))), Value.int .u64 (u64 ((rd out337 (w64 (x245 + x342))))), Value.int .u64 (u64 ((u64 ((u64 ((rd a1.mag x245))) * (u64 ((rd b5.mag x342))))) + (u64 ((rd out337 (w64 (x245 + x342))))))), Value.int .u64 (u64 (c341 + (u64 ((u64 ((u64 ((rd a1.mag x245))) * (u64 ((rd b5.mag x342))))) + (u64 ((rd out337 (w64 (x245 + x342))))))))), Value.slice (some ⟨b51, 0, none⟩) (out337.set (w64 (x245 + x342)).toNat (u32 (u64 (c341 + (u64 ((u64 ((u64 ((rd a1.mag x245))) * (u64 ((rd b5.mag x342))))) + (u64 ((rd out337 (w64 (x245 + x342))))))))))).length (w64 ((a1.mag.length : Int) + (b5.mag.length : Int))).toNat, Value.int .i64 x245, Value.int .i64 x342, Value.int .i64 (w64 (x245 + x342)), Value.int .u64 (u64 (c341 + (u64 ((u64 ((u64 ((rd a1.mag x245))) * (u64 ((rd b5.mag x342))))) + (u64 ((rd out337 (w64 (x245 + x342))))))))), Value.int .u32 (u32 (u64 (c341 + (u64 ((u64 ((u64 ((rd a1.mag x245))) * (u64 ((rd b5.mag x342))))) + (u64 ((rd out337 (w64 (x245 + x342)))))))))), Value.pointer (some ⟨b51, 0 + (w64 (x245 + x342) : Int).toNat * 1, none⟩), Value.int .u64 (u64 (c341 + (u64 ((u64 ((u64 ((rd a1.mag x245))) * (u64 ((rd b5.mag x342))))) + (u64 ((rd out337 (w64 (x245 + x342))))))))), Value.int .u64 (shr (u64 (c341 + (u64 ((u64 ((u64 ((rd a1.mag x245))) * (u64 ((rd b5.mag x342))))) + (u64 ((rd out337 (w64 (x245 + x342))))))))) 32), Value.int .i64 (w64 (x342 + 1))].getD i_ undef), L333, HS377, HO378, (List.length_set.trans HL340), h, (by kernel_rfl)⟩
      · have c348 : ¬ (x342 < (b5.mag.length : Int)) := c348
        refine wpRwI 39 (x := (decide (x342 < (b5.mag.length : Int)))) (v := false) (by kernel_rfl) (decide_eq_false c348) ?_
        refine condF (by kernel_rfl) ?_
        refine wp_exit ?_
        refine hx276 _ _ ?_
        exact J390 f332 s338 out337 c341 (fun i_ => [(j336 0), (j336 1), Value.int .i64 x342, Value.bool false, (j336 3), (j336 4), (j336 5), (j336 6), (j336 7), (j336 8), (j336 9), (j336 10), (j336 11), (j336 12), (j336 13), (j336 14), (j336 15), (j336 16), (j336 17), (j336 18), (j336 19), (j336 20), (j336 21), (j336 22), (j336 23), (j336 24), (j336 25), (j336 26), (j336 27), (j336 28), (j336 29), (j336 30)].getD i_ undef) W334 _ L333 h HS335 HO339 HL340 (by kernel_rfl)
    · have c251 : ¬ (x245 < (a1.mag.length : Int)) := c251
      refine wpRwI 31 (x := (decide (x245 < (a1.mag.length : Int)))) (v := false) (by kernel_rfl) (decide_eq_false c251) ?_
      refine condF (by kernel_rfl) ?_
      refine wp_exit ?_
      refine hx62 _ _ ?_
      exact J411 f236 s242 out241 (fun i_ => [(j240 0), (j240 1), (j240 2), (j240 3), (j240 4), Value.slice (some ⟨b51, 0, none⟩) (List.replicate (w64 ((a1.mag.length : Int) + (b5.mag.length : Int))).toNat (0 : Int)).length (w64 ((a1.mag.length : Int) + (b5.mag.length : Int))).toNat, Value.int .i64 x245, Value.bool false, (j240 6), (j240 7), (j240 8), (j240 9), (j240 10), (j240 11), (j240 12), (j240 13), (j240 14), (j240 15), (j240 16), (j240 17), (j240 18), (j240 19), (j240 20), (j240 21), (j240 22), (j240 23), (j240 24), (j240 25), (j240 26), (j240 27), (j240 28), (j240 29), (j240 30), (j240 31), (j240 32), (j240 33), (j240 34), (j240 35), (j240 36), (j240 37), (j240 38), (j240 39), (j240 40), (j240 41), (j240 42), (j240 43), (j240 44), (j240 45), (j240 46), (j240 47), (j240 48), (j240 49), (j240 50), (j240 51)].getD i_ undef) W238 _ L237 h HS239 HO243 HL244 (by kernel_rfl)

end Go.Sp.P6
