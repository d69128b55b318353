import Derived.Test.YtaddopcbneggiaaProg
import Derived.Test.YtaddopcbneggiaaSpTwo
import Derived.Test.YtaddopcbneggiaaFZ5
import Derived.Test.YtaddopcbneggiaaKZ5n0
import Derived.Test.YtaddopcbneggiaaKZ5n1
import Derived.Test.YtaddopcbneggiaaKZ5n2
namespace Go.Sp.Z5
open Go Go.Sp Go.Proofs
set_option linter.unusedVariables false
attribute [local irreducible] wpList AnyL Code.wp Calls Does
set_option maxRecDepth 100000 in
set_option maxHeartbeats 4000000 in
theorem num_Wide_Div.calls (k : Nat)  (vw1 : S_Wide) (d2 : Int) {t w : World} {f : FM} {H : List Seg} (HS : St t w f (H)) (r1 : Int) (r2 : Int) (h : num_Wide_Div k vw1 d2 = some (r1, r2)) :
    Calls Try.prog 46 #[.agg #[.int .i64 vw1.Hi, .int .u64 vw1.Lo], .int .i64 d2] w (fun e w' => ∃ (g : FM), e = .returned (Value.tuple #[.int .i64 r1, .int .i64 r2]) ∧ FM.le f g ∧ St t w' g (H)) := by
  unfold num_Wide_Div at h
  refine enter Try.func46 rfl (tm := #[.agg #[.int .i64 vw1.Hi, .int .u64 vw1.Lo], .int .i64 d2, undef, undef, undef, undef, undef, undef, undef, undef, undef, undef, undef, undef, undef, undef, undef, undef, undef, undef, undef, undef, undef, undef, undef, undef, undef, undef, undef, undef, undef, undef, undef, undef, undef, undef, undef, undef, undef, undef, undef, undef, undef, undef, undef, undef, undef, undef, undef, undef, undef, undef, undef, undef, undef, undef, undef, undef, undef, undef, undef]) (by kernel_rfl) ?_
  intro B hret hnor hnp
  refine wp_seq_k (fun K3 hK4 => ?_)
  refine wp_region_lit ?_
  refine seqK rfl (does_box (cs := #[.int .i64 vw1.Hi, .int .u64 vw1.Lo]) rfl (by kernel_rfl : _ = Value.agg #[.int .i64 vw1.Hi, .int .u64 vw1.Lo]) rfl HS ?_)
  intro b5 W6 HS7
  refine seqS2 (a' := ⟨#[.agg #[.int .i64 vw1.Hi, .int .u64 vw1.Lo], .int .i64 d2, .pointer (some ⟨b5, 0, none⟩), undef, .int .i64 0, .int .i64 0, undef, undef, undef, undef, undef, undef, undef, undef, undef, undef, undef, undef, undef, undef, undef, undef, undef, undef, undef, undef, undef, undef, undef, undef, undef, undef, undef, undef, undef, undef, undef, undef, undef, undef, undef, undef, undef, undef, undef, undef, undef, undef, undef, undef, undef, undef, undef, undef, undef, undef, undef, undef, undef, undef, undef], []⟩) (by kernel_rfl) ?_
  refine wpList_nil ?_
  refine hK4 _ _ ?_
  refine wp_seq_k (fun K9 hK10 => ?_)
  refine wp_seq_k (fun K11 hK12 => ?_)
  refine wp_region_lit ?_
  refine seqS2 (a' := ⟨#[.agg #[.int .i64 vw1.Hi, .int .u64 vw1.Lo], .int .i64 d2, .pointer (some ⟨b5, 0, none⟩), undef, .int .i64 0, .int .i64 0, undef, undef, undef, undef, .int .i64 d2, .bool (decide (d2 < 1)), undef, undef, undef, undef, undef, undef, undef, undef, undef, undef, undef, undef, undef, undef, undef, undef, undef, undef, undef, undef, undef, undef, undef, undef, undef, undef, undef, undef, undef, undef, undef, undef, undef, undef, undef, undef, undef, undef, undef, undef, undef, undef, undef, undef, undef, undef, undef, undef, undef], []⟩) (by kernel_rfl) ?_
  refine wpList_nil ?_
  refine hK12 _ _ ?_
  have hq_ := ite_some h; clear h; rcases hq_ with ⟨c14, h⟩ | ⟨c14, h⟩
  · have c14 : d2 < 1 := c14
    refine wpRwI 11 (x := (decide (d2 < 1))) (v := true) (by kernel_rfl) (decide_eq_true c14) ?_
    refine condT (by kernel_rfl) ?_
    refine wp_seq_k (fun K15 hK16 => ?_)
    refine wp_region_lit ?_
    refine seqS2 (a' := ⟨#[.agg #[.int .i64 vw1.Hi, .int .u64 vw1.Lo], .int .i64 d2, .pointer (some ⟨b5, 0, none⟩), undef, .int .i64 0, .int .i64 1, undef, undef, undef, undef, .int .i64 d2, .bool true, undef, undef, undef, undef, undef, undef, undef, undef, undef, undef, undef, undef, undef, undef, undef, undef, undef, undef, undef, undef, undef, undef, undef, undef, undef, undef, undef, undef, undef, undef, undef, undef, undef, undef, undef, undef, undef, undef, undef, undef, undef, undef, undef, undef, undef, undef, undef, undef, undef], []⟩) (by kernel_rfl) ?_
    refine wpList_nil ?_
    refine hK16 _ _ ?_
    refine wp_ret ?_
    refine hret _ _ ?_
    refine ends_still (v := Value.tuple #[.int .i64 0, .int .i64 1]) (by kernel_rfl) (by kernel_rfl) ?_
    have HS129 := HS7.drop
    injection h with h
    injection h with h0_ h
    subst h0_ h
    exact ⟨f, rfl, FM.le.refl _, HS129⟩
  · have c14 : ¬ (d2 < 1) := c14
    refine wpRwI 11 (x := (decide (d2 < 1))) (v := false) (by kernel_rfl) (decide_eq_false c14) ?_
    refine condF (by kernel_rfl) ?_
    refine wp_skip ?_
    refine hK10 _ _ ?_
    refine wp_seq_k (fun K17 hK18 => ?_)
    refine wp_region_lit ?_
    refine seqK rfl (does_run (run_loadN (n := 2) rfl Try.underlying95 rfl (by kernel_rfl) (by kernel_rfl : _ = Value.pointer (some ⟨b5, 0, none⟩)) (cs := [.int .i64 vw1.Hi, .int .u64 vw1.Lo]) rfl (HS7.cells 0 2 _ rfl)) ?_)
    refine seqK rfl (does_alloc (z := Value.agg #[.int .i64 0, .int .u64 0]) (cs := #[.int .i64 0, .int .u64 0]) rfl (by kernel_rfl) rfl HS7 ?_)
    intro b19 W20 HS21
    refine seqK rfl (does_store (n := 2) (vs := [.int .i64 vw1.Hi, .int .u64 vw1.Lo]) (cs' := #[.int .i64 vw1.Hi, .int .u64 vw1.Lo]) rfl (by kernel_rfl) (by kernel_rfl : _ = Value.pointer (some ⟨b19, 0, none⟩)) (by kernel_rfl : _ = Value.agg #[.int .i64 vw1.Hi, .int .u64 vw1.Lo]) rfl rfl (by intro u_ hu_; simp only [List.mem_cons, List.not_mem_nil, or_false] at hu_; rcases hu_ with rfl | rfl <;> rfl) HS21 (Nat.le_of_ble_eq_true rfl) (by kernel_rfl) ?_)
    intro W23 HS24
    refine wpList_nil ?_
    refine hK18 _ _ ?_
    refine wp_seq_k (fun K25 hK26 => ?_)
    refine wp_seq_k (fun K27 hK28 => ?_)
    refine wp_region_lit ?_
    refine seqL1 (by kernel_rfl) ?_
    refine seqK rfl (does_run (run_load rfl Try.underlying2 rfl (by kernel_rfl : _ = Value.pointer (some ⟨b5, 0, none⟩)) (HS24.u1.cell 0)) ?_)
    refine seqS1 (a' := ⟨#[.agg #[.int .i64 vw1.Hi, .int .u64 vw1.Lo], .int .i64 d2, .pointer (some ⟨b5, 0, none⟩), undef, .int .i64 0, .int .i64 0, .pointer (some ⟨b19, 0, none⟩), undef, undef, undef, .int .i64 d2, .bool false, .agg #[.int .i64 vw1.Hi, .int .u64 vw1.Lo], .pointer (some ⟨b5, 0, none⟩), .int .i64 vw1.Hi, .bool (decide (vw1.Hi < 0)), undef, undef, undef, undef, undef, undef, undef, undef, undef, undef, undef, undef, undef, undef, undef, undef, undef, undef, undef, undef, undef, undef, undef, undef, undef, undef, undef, undef, undef, undef, undef, undef, undef, undef, undef, undef, undef, undef, undef, undef, undef, undef, undef, undef, undef], []⟩) (by kernel_rfl) ?_
    refine wpList_nil ?_
    refine hK28 _ _ ?_
    have hq_ := bind_some h; clear h; obtain ⟨v29, hv46, h⟩ := hq_
    have J47 : ∀ (f39 : FM) (x44 : Int) (x45 : Int) (j43 : Nat → Value) (W41 : World) (a_ : Act), FM.le f f39 → some ((x44, x45)) = some v29 → St t W41 f39 ([(b19, .cells #[.int .i64 x44, .int .u64 x45] 95 (0, 0))] :: [(b5, .cells #[.int .i64 vw1.Hi, .int .u64 vw1.Lo] 95 (0, 0))] :: H) → a_ = ⟨#[.agg #[.int .i64 vw1.Hi, .int .u64 vw1.Lo], .int .i64 d2, .pointer (some ⟨b5, 0, none⟩), undef, .int .i64 0, .int .i64 0, .pointer (some ⟨b19, 0, none⟩), undef, undef, undef, .int .i64 d2, .bool false, .agg #[.int .i64 vw1.Hi, .int .u64 vw1.Lo], .pointer (some ⟨b5, 0, none⟩), .int .i64 vw1.Hi, (j43 0), (j43 1), (j43 2), undef, undef, undef, undef, undef, undef, undef, undef, undef, undef, undef, undef, undef, undef, undef, undef, undef, undef, undef, undef, undef, undef, undef, undef, undef, undef, undef, undef, undef, undef, undef, undef, undef, undef, undef, undef, undef, undef, undef, undef, undef, undef, undef], []⟩ → K25 a_ W41 := by
      intro f39 x44 x45 j43 W41 a_ L40 hj48 HS42  hfr_; subst hfr_
      injection hj48 with hj48; subst hj48; try dsimp only at h
      refine hK26 _ _ ?_
      refine wp_seq_k (fun K49 hK50 => ?_)
      refine wp_seq_k (fun K51 hK52 => ?_)
      refine wp_region_lit ?_
      refine seqL1 (by kernel_rfl) ?_
      refine seqK rfl (does_run (run_load rfl Try.underlying2 rfl (by kernel_rfl : _ = Value.pointer (some ⟨b19, 0, none⟩)) (HS42.cell 0)) ?_)
      refine seqS4 (a' := ⟨#[.agg #[.int .i64 vw1.Hi, .int .u64 vw1.Lo], .int .i64 d2, .pointer (some ⟨b5, 0, none⟩), undef, .int .i64 0, .int .i64 0, .pointer (some ⟨b19, 0, none⟩), undef, undef, undef, .int .i64 d2, .bool false, .agg #[.int .i64 vw1.Hi, .int .u64 vw1.Lo], .pointer (some ⟨b5, 0, none⟩), .int .i64 vw1.Hi, (j43 0), (j43 1), (j43 2), .pointer (some ⟨b19, 0, none⟩), .int .i64 x44, .int .u64 (u64 (x44)), .int .i64 d2, .int .u64 (u64 (d2)), .bool (decide ((u64 (x44)) ≥ (u64 (d2)))), undef, undef, undef, undef, undef, undef, undef, undef, undef, undef, undef, undef, undef, undef, undef, undef, undef, undef, undef, undef, undef, undef, undef, undef, undef, undef, undef, undef, undef, undef, undef, undef, undef, undef, undef, undef, undef], []⟩) (by kernel_rfl) ?_
      refine wpList_nil ?_
      refine hK52 _ _ ?_
      have hq_ := ite_some h; clear h; rcases hq_ with ⟨c54, h⟩ | ⟨c54, h⟩
      · have c54 : (u64 (x44)) ≥ (u64 (d2)) := c54
        refine wpRwI 23 (x := (decide ((u64 (x44)) ≥ (u64 (d2))))) (v := true) (by kernel_rfl) (decide_eq_true c54) ?_
        refine condT (by kernel_rfl) ?_
        refine wp_seq_k (fun K55 hK56 => ?_)
        refine wp_region_lit ?_
        refine seqS2 (a' := ⟨#[.agg #[.int .i64 vw1.Hi, .int .u64 vw1.Lo], .int .i64 d2, .pointer (some ⟨b5, 0, none⟩), undef, .int .i64 0, .int .i64 2, .pointer (some ⟨b19, 0, none⟩), undef, undef, undef, .int .i64 d2, .bool false, .agg #[.int .i64 vw1.Hi, .int .u64 vw1.Lo], .pointer (some ⟨b5, 0, none⟩), .int .i64 vw1.Hi, (j43 0), (j43 1), (j43 2), .pointer (some ⟨b19, 0, none⟩), .int .i64 x44, .int .u64 (u64 (x44)), .int .i64 d2, .int .u64 (u64 (d2)), .bool true, undef, undef, undef, undef, undef, undef, undef, undef, undef, undef, undef, undef, undef, undef, undef, undef, undef, undef, undef, undef, undef, undef, undef, undef, undef, undef, undef, undef, undef, undef, undef, undef, undef, undef, undef, undef, undef], []⟩) (by kernel_rfl) ?_
        refine wpList_nil ?_
        refine hK56 _ _ ?_
        refine wp_ret ?_
        refine hret _ _ ?_
        refine ends_still (v := Value.tuple #[.int .i64 0, .int .i64 2]) (by kernel_rfl) (by kernel_rfl) ?_
        have HS130 := HS42.drop
        have HS131 := HS130.drop
        injection h with h
        injection h with h0_ h
        subst h0_ h
        exact ⟨f39, rfl, L40, HS131⟩
      · have c54 : ¬ ((u64 (x44)) ≥ (u64 (d2))) := c54
        refine wpRwI 23 (x := (decide ((u64 (x44)) ≥ (u64 (d2))))) (v := false) (by kernel_rfl) (decide_eq_false c54) ?_
        refine condF (by kernel_rfl) ?_
        refine wp_skip ?_
        refine hK50 _ _ ?_
        refine wp_seq_k (fun K57 hK58 => ?_)
        refine wp_region_lit ?_
        refine seqL1 (by kernel_rfl) ?_
        refine seqK rfl (does_run (run_load rfl Try.underlying2 rfl (by kernel_rfl : _ = Value.pointer (some ⟨b19, 0, none⟩)) (HS42.cell 0)) ?_)
        refine seqL2 (by kernel_rfl) ?_
        refine seqK rfl (does_run (run_load rfl Try.underlying84 rfl (by kernel_rfl : _ = Value.pointer (some ⟨b19, 1, none⟩)) (HS42.cell 1)) ?_)
        have hq_ := bind_some h; clear h; obtain ⟨⟨vt59, vt60⟩, hc61, h⟩ := hq_
        refine seqL2 (by kernel_rfl) ?_
        refine seqK rfl (does_call (f := 57) (args := #[.int .u64 (u64 (x44)), .int .u64 x45, .int .u64 (u64 (d2))]) (by kernel_rfl) (bits_Div64.calls k (u64 (x44)) x45 (u64 (d2)) HS42 vt59 vt60 hc61) ?_)
        rintro _ W64 ⟨f62, rfl, L63, HS65⟩
        refine ⟨_, rfl, ?_⟩
        refine seqS5 (a' := ⟨#[.agg #[.int .i64 vw1.Hi, .int .u64 vw1.Lo], .int .i64 d2, .pointer (some ⟨b5, 0, none⟩), undef, .int .i64 0, .int .i64 0, .pointer (some ⟨b19, 0, none⟩), .int .u64 vt59, .int .u64 vt60, undef, .int .i64 d2, .bool false, .agg #[.int .i64 vw1.Hi, .int .u64 vw1.Lo], .pointer (some ⟨b5, 0, none⟩), .int .i64 vw1.Hi, (j43 0), (j43 1), (j43 2), .pointer (some ⟨b19, 0, none⟩), .int .i64 x44, .int .u64 (u64 (x44)), .int .i64 d2, .int .u64 (u64 (d2)), .bool false, .tuple #[.int .u64 vt59, .int .u64 vt60], .pointer (some ⟨b19, 0, none⟩), .int .i64 x44, .int .u64 (u64 (x44)), .pointer (some ⟨b19, 1, none⟩), .int .u64 x45, .int .i64 d2, .int .u64 (u64 (d2)), .tuple #[.int .u64 vt59, .int .u64 vt60], .int .u64 vt59, .int .u64 vt60, undef, undef, undef, undef, undef, undef, undef, undef, undef, undef, undef, undef, undef, undef, undef, undef, undef, undef, undef, undef, undef, undef, undef, undef, undef, undef], []⟩) (by kernel_rfl) ?_
        refine wpList_nil ?_
        refine hK58 _ _ ?_
        refine wp_seq_k (fun K66 hK67 => ?_)
        refine wp_region_lit ?_
        refine seqS1 (a' := ⟨#[.agg #[.int .i64 vw1.Hi, .int .u64 vw1.Lo], .int .i64 d2, .pointer (some ⟨b5, 0, none⟩), undef, .int .i64 0, .int .i64 0, .pointer (some ⟨b19, 0, none⟩), .int .u64 vt59, .int .u64 vt60, .int .u64 9223372036854775807, .int .i64 d2, .bool false, .agg #[.int .i64 vw1.Hi, .int .u64 vw1.Lo], .pointer (some ⟨b5, 0, none⟩), .int .i64 vw1.Hi, (j43 0), (j43 1), (j43 2), .pointer (some ⟨b19, 0, none⟩), .int .i64 x44, .int .u64 (u64 (x44)), .int .i64 d2, .int .u64 (u64 (d2)), .bool false, .tuple #[.int .u64 vt59, .int .u64 vt60], .pointer (some ⟨b19, 0, none⟩), .int .i64 x44, .int .u64 (u64 (x44)), .pointer (some ⟨b19, 1, none⟩), .int .u64 x45, .int .i64 d2, .int .u64 (u64 (d2)), .tuple #[.int .u64 vt59, .int .u64 vt60], .int .u64 vt59, .int .u64 vt60, undef, undef, undef, undef, undef, undef, undef, undef, undef, undef, undef, undef, undef, undef, undef, undef, undef, undef, undef, undef, undef, undef, undef, undef, undef, undef], []⟩) (by kernel_rfl) ?_
        refine wpList_nil ?_
        refine hK67 _ _ ?_
        refine wp_seq_k (fun K68 hK69 => ?_)
        refine wp_seq_k (fun K70 hK71 => ?_)
        refine wp_region_lit ?_
        refine seqL1 (by kernel_rfl) ?_
        refine seqK rfl (does_run (run_load rfl Try.underlying2 rfl (by kernel_rfl : _ = Value.pointer (some ⟨b5, 0, none⟩)) (HS65.u1.cell 0)) ?_)
        refine seqS1 (a' := ⟨#[.agg #[.int .i64 vw1.Hi, .int .u64 vw1.Lo], .int .i64 d2, .pointer (some ⟨b5, 0, none⟩), undef, .int .i64 0, .int .i64 0, .pointer (some ⟨b19, 0, none⟩), .int .u64 vt59, .int .u64 vt60, .int .u64 9223372036854775807, .int .i64 d2, .bool false, .agg #[.int .i64 vw1.Hi, .int .u64 vw1.Lo], .pointer (some ⟨b5, 0, none⟩), .int .i64 vw1.Hi, (j43 0), (j43 1), (j43 2), .pointer (some ⟨b19, 0, none⟩), .int .i64 x44, .int .u64 (u64 (x44)), .int .i64 d2, .int .u64 (u64 (d2)), .bool false, .tuple #[.int .u64 vt59, .int .u64 vt60], .pointer (some ⟨b19, 0, none⟩), .int .i64 x44, .int .u64 (u64 (x44)), .pointer (some ⟨b19, 1, none⟩), .int .u64 x45, .int .i64 d2, .int .u64 (u64 (d2)), .tuple #[.int .u64 vt59, .int .u64 vt60], .int .u64 vt59, .int .u64 vt60, .pointer (some ⟨b5, 0, none⟩), .int .i64 vw1.Hi, .bool (decide (vw1.Hi < 0)), undef, undef, undef, undef, undef, undef, undef, undef, undef, undef, undef, undef, undef, undef, undef, undef, undef, undef, undef, undef, undef, undef, undef], []⟩) (by kernel_rfl) ?_
        refine wpList_nil ?_
        refine hK71 _ _ ?_
        have hq_ := bind_some h; clear h; obtain ⟨v72, hv95, h⟩ := hq_
        have J96 : ∀ (f89 : FM) (most94 : Int) (j93 : Nat → Value) (W91 : World) (a_ : Act), FM.le f62 f89 → some (most94) = some v72 → St t W91 f89 ([(b19, .cells #[.int .i64 x44, .int .u64 x45] 95 (0, 0))] :: [(b5, .cells #[.int .i64 vw1.Hi, .int .u64 vw1.Lo] 95 (0, 0))] :: H) → a_ = ⟨#[.agg #[.int .i64 vw1.Hi, .int .u64 vw1.Lo], .int .i64 d2, .pointer (some ⟨b5, 0, none⟩), undef, .int .i64 0, .int .i64 0, .pointer (some ⟨b19, 0, none⟩), .int .u64 vt59, .int .u64 vt60, .int .u64 most94, .int .i64 d2, .bool false, .agg #[.int .i64 vw1.Hi, .int .u64 vw1.Lo], .pointer (some ⟨b5, 0, none⟩), .int .i64 vw1.Hi, (j43 0), (j43 1), (j43 2), .pointer (some ⟨b19, 0, none⟩), .int .i64 x44, .int .u64 (u64 (x44)), .int .i64 d2, .int .u64 (u64 (d2)), .bool false, .tuple #[.int .u64 vt59, .int .u64 vt60], .pointer (some ⟨b19, 0, none⟩), .int .i64 x44, .int .u64 (u64 (x44)), .pointer (some ⟨b19, 1, none⟩), .int .u64 x45, .int .i64 d2, .int .u64 (u64 (d2)), .tuple #[.int .u64 vt59, .int .u64 vt60], .int .u64 vt59, .int .u64 vt60, .pointer (some ⟨b5, 0, none⟩), .int .i64 vw1.Hi, (j93 0), (j93 1), (j93 2), (j93 3), (j93 4), undef, undef, undef, undef, undef, undef, undef, undef, undef, undef, undef, undef, undef, undef, undef, undef, undef, undef, undef], []⟩ → K68 a_ W91 := by
          intro f89 most94 j93 W91 a_ L90 hj97 HS92  hfr_; subst hfr_
          injection hj97 with hj97; subst hj97; try dsimp only at h
          refine hK69 _ _ ?_
          refine wp_seq_k (fun K98 hK99 => ?_)
          refine wp_seq_k (fun K100 hK101 => ?_)
          refine wp_region_lit ?_
          refine seqS3 (a' := ⟨#[.agg #[.int .i64 vw1.Hi, .int .u64 vw1.Lo], .int .i64 d2, .pointer (some ⟨b5, 0, none⟩), undef, .int .i64 0, .int .i64 0, .pointer (some ⟨b19, 0, none⟩), .int .u64 vt59, .int .u64 vt60, .int .u64 most94, .int .i64 d2, .bool false, .agg #[.int .i64 vw1.Hi, .int .u64 vw1.Lo], .pointer (some ⟨b5, 0, none⟩), .int .i64 vw1.Hi, (j43 0), (j43 1), (j43 2), .pointer (some ⟨b19, 0, none⟩), .int .i64 x44, .int .u64 (u64 (x44)), .int .i64 d2, .int .u64 (u64 (d2)), .bool false, .tuple #[.int .u64 vt59, .int .u64 vt60], .pointer (some ⟨b19, 0, none⟩), .int .i64 x44, .int .u64 (u64 (x44)), .pointer (some ⟨b19, 1, none⟩), .int .u64 x45, .int .i64 d2, .int .u64 (u64 (d2)), .tuple #[.int .u64 vt59, .int .u64 vt60], .int .u64 vt59, .int .u64 vt60, .pointer (some ⟨b5, 0, none⟩), .int .i64 vw1.Hi, (j93 0), (j93 1), (j93 2), (j93 3), (j93 4), .int .u64 vt59, .int .u64 most94, .bool (decide (vt59 > most94)), undef, undef, undef, undef, undef, undef, undef, undef, undef, undef, undef, undef, undef, undef, undef, undef], []⟩) (by kernel_rfl) ?_
          refine wpList_nil ?_
          refine hK101 _ _ ?_
          have hq_ := ite_some h; clear h; rcases hq_ with ⟨c103, h⟩ | ⟨c103, h⟩
          · have c103 : vt59 > most94 := c103
            refine wpRwI 44 (x := (decide (vt59 > most94))) (v := true) (by kernel_rfl) (decide_eq_true c103) ?_
            refine condT (by kernel_rfl) ?_
            refine wp_seq_k (fun K104 hK105 => ?_)
            refine wp_region_lit ?_
            refine seqS2 (a' := ⟨#[.agg #[.int .i64 vw1.Hi, .int .u64 vw1.Lo], .int .i64 d2, .pointer (some ⟨b5, 0, none⟩), undef, .int .i64 0, .int .i64 2, .pointer (some ⟨b19, 0, none⟩), .int .u64 vt59, .int .u64 vt60, .int .u64 most94, .int .i64 d2, .bool false, .agg #[.int .i64 vw1.Hi, .int .u64 vw1.Lo], .pointer (some ⟨b5, 0, none⟩), .int .i64 vw1.Hi, (j43 0), (j43 1), (j43 2), .pointer (some ⟨b19, 0, none⟩), .int .i64 x44, .int .u64 (u64 (x44)), .int .i64 d2, .int .u64 (u64 (d2)), .bool false, .tuple #[.int .u64 vt59, .int .u64 vt60], .pointer (some ⟨b19, 0, none⟩), .int .i64 x44, .int .u64 (u64 (x44)), .pointer (some ⟨b19, 1, none⟩), .int .u64 x45, .int .i64 d2, .int .u64 (u64 (d2)), .tuple #[.int .u64 vt59, .int .u64 vt60], .int .u64 vt59, .int .u64 vt60, .pointer (some ⟨b5, 0, none⟩), .int .i64 vw1.Hi, (j93 0), (j93 1), (j93 2), (j93 3), (j93 4), .int .u64 vt59, .int .u64 most94, .bool true, undef, undef, undef, undef, undef, undef, undef, undef, undef, undef, undef, undef, undef, undef, undef, undef], []⟩) (by kernel_rfl) ?_
            refine wpList_nil ?_
            refine hK105 _ _ ?_
            refine wp_ret ?_
            refine hret _ _ ?_
            refine ends_still (v := Value.tuple #[.int .i64 0, .int .i64 2]) (by kernel_rfl) (by kernel_rfl) ?_
            have HS132 := HS92.drop
            have HS133 := HS132.drop
            injection h with h
            injection h with h0_ h
            subst h0_ h
            exact ⟨f89, rfl, (L40.trans (L63.trans L90)), HS133⟩
          · have c103 : ¬ (vt59 > most94) := c103
            refine wpRwI 44 (x := (decide (vt59 > most94))) (v := false) (by kernel_rfl) (decide_eq_false c103) ?_
            refine condF (by kernel_rfl) ?_
            refine wp_skip ?_
            refine hK99 _ _ ?_
            refine wp_seq_k (fun K106 hK107 => ?_)
            refine blockK (fun B108 hx109 hn110 hr111 ho112 hp113 => ?_)
            refine wp_seq_k (fun K115 hK116 => ?_)
            refine wp_region_lit ?_
            refine seqL1 (by kernel_rfl) ?_
            refine seqK rfl (does_run (run_load rfl Try.underlying2 rfl (by kernel_rfl : _ = Value.pointer (some ⟨b5, 0, none⟩)) (HS92.u1.cell 0)) ?_)
            refine seqS2 (a' := ⟨#[.agg #[.int .i64 vw1.Hi, .int .u64 vw1.Lo], .int .i64 d2, .pointer (some ⟨b5, 0, none⟩), undef, .int .i64 0, .int .i64 0, .pointer (some ⟨b19, 0, none⟩), .int .u64 vt59, .int .u64 vt60, .int .u64 most94, .int .i64 d2, .bool false, .agg #[.int .i64 vw1.Hi, .int .u64 vw1.Lo], .pointer (some ⟨b5, 0, none⟩), .int .i64 vw1.Hi, (j43 0), (j43 1), (j43 2), .pointer (some ⟨b19, 0, none⟩), .int .i64 x44, .int .u64 (u64 (x44)), .int .i64 d2, .int .u64 (u64 (d2)), .bool false, .tuple #[.int .u64 vt59, .int .u64 vt60], .pointer (some ⟨b19, 0, none⟩), .int .i64 x44, .int .u64 (u64 (x44)), .pointer (some ⟨b19, 1, none⟩), .int .u64 x45, .int .i64 d2, .int .u64 (u64 (d2)), .tuple #[.int .u64 vt59, .int .u64 vt60], .int .u64 vt59, .int .u64 vt60, .pointer (some ⟨b5, 0, none⟩), .int .i64 vw1.Hi, (j93 0), (j93 1), (j93 2), (j93 3), (j93 4), .int .u64 vt59, .int .u64 most94, .bool false, .bool (decide (vw1.Hi ≥ 0)), .pointer (some ⟨b5, 0, none⟩), .int .i64 vw1.Hi, .bool (decide (vw1.Hi ≥ 0)), undef, undef, undef, undef, undef, undef, undef, undef, undef, undef, undef, undef], []⟩) (by kernel_rfl) ?_
            refine wpList_nil ?_
            refine hK116 _ _ ?_
            have hq_ := ite_some h; clear h; rcases hq_ with ⟨c118, h⟩ | ⟨c118, h⟩
            · have c118 : vw1.Hi ≥ 0 := c118
              refine wpRwI 45 (x := (decide (vw1.Hi ≥ 0))) (v := true) (by kernel_rfl) (decide_eq_true c118) ?_
              refine wpRwI 48 (x := (decide (vw1.Hi ≥ 0))) (v := true) (by kernel_rfl) (decide_eq_true c118) ?_
              refine condT (by kernel_rfl) ?_
              refine wp_seq_k (fun K119 hK120 => ?_)
              refine wp_region_lit ?_
              refine seqS4 (a' := ⟨#[.agg #[.int .i64 vw1.Hi, .int .u64 vw1.Lo], .int .i64 d2, .pointer (some ⟨b5, 0, none⟩), undef, .int .i64 (w64 (vt59)), .int .i64 0, .pointer (some ⟨b19, 0, none⟩), .int .u64 vt59, .int .u64 vt60, .int .u64 most94, .int .i64 d2, .bool false, .agg #[.int .i64 vw1.Hi, .int .u64 vw1.Lo], .pointer (some ⟨b5, 0, none⟩), .int .i64 vw1.Hi, (j43 0), (j43 1), (j43 2), .pointer (some ⟨b19, 0, none⟩), .int .i64 x44, .int .u64 (u64 (x44)), .int .i64 d2, .int .u64 (u64 (d2)), .bool false, .tuple #[.int .u64 vt59, .int .u64 vt60], .pointer (some ⟨b19, 0, none⟩), .int .i64 x44, .int .u64 (u64 (x44)), .pointer (some ⟨b19, 1, none⟩), .int .u64 x45, .int .i64 d2, .int .u64 (u64 (d2)), .tuple #[.int .u64 vt59, .int .u64 vt60], .int .u64 vt59, .int .u64 vt60, .pointer (some ⟨b5, 0, none⟩), .int .i64 vw1.Hi, (j93 0), (j93 1), (j93 2), (j93 3), (j93 4), .int .u64 vt59, .int .u64 most94, .bool false, .bool true, .pointer (some ⟨b5, 0, none⟩), .int .i64 vw1.Hi, .bool true, .int .u64 vt59, .int .i64 (w64 (vt59)), undef, undef, undef, undef, undef, undef, undef, undef, undef, undef], []⟩) (by kernel_rfl) ?_
              refine wpList_nil ?_
              refine hK120 _ _ ?_
              refine wp_ret ?_
              refine hr111 _ _ ?_
              refine hret _ _ ?_
              refine ends_still (v := Value.tuple #[.int .i64 (w64 (vt59)), .int .i64 0]) (by kernel_rfl) (by kernel_rfl) ?_
              have HS134 := HS92.drop
              have HS135 := HS134.drop
              injection h with h
              injection h with h0_ h
              subst h0_ h
              exact ⟨f89, rfl, (L40.trans (L63.trans L90)), HS135⟩
            · have c118 : ¬ (vw1.Hi ≥ 0) := c118
              refine wpRwI 45 (x := (decide (vw1.Hi ≥ 0))) (v := false) (by kernel_rfl) (decide_eq_false c118) ?_
              refine wpRwI 48 (x := (decide (vw1.Hi ≥ 0))) (v := false) (by kernel_rfl) (decide_eq_false c118) ?_
              refine condF (by kernel_rfl) ?_
              refine wp_seq_k (fun K121 hK122 => ?_)
              refine wp_region_lit ?_
              refine seqS3 (a' := ⟨#[.agg #[.int .i64 vw1.Hi, .int .u64 vw1.Lo], .int .i64 d2, .pointer (some ⟨b5, 0, none⟩), undef, .int .i64 0, .int .i64 0, .pointer (some ⟨b19, 0, none⟩), .int .u64 vt59, .int .u64 vt60, .int .u64 most94, .int .i64 d2, .bool false, .agg #[.int .i64 vw1.Hi, .int .u64 vw1.Lo], .pointer (some ⟨b5, 0, none⟩), .int .i64 vw1.Hi, (j43 0), (j43 1), (j43 2), .pointer (some ⟨b19, 0, none⟩), .int .i64 x44, .int .u64 (u64 (x44)), .int .i64 d2, .int .u64 (u64 (d2)), .bool false, .tuple #[.int .u64 vt59, .int .u64 vt60], .pointer (some ⟨b19, 0, none⟩), .int .i64 x44, .int .u64 (u64 (x44)), .pointer (some ⟨b19, 1, none⟩), .int .u64 x45, .int .i64 d2, .int .u64 (u64 (d2)), .tuple #[.int .u64 vt59, .int .u64 vt60], .int .u64 vt59, .int .u64 vt60, .pointer (some ⟨b5, 0, none⟩), .int .i64 vw1.Hi, (j93 0), (j93 1), (j93 2), (j93 3), (j93 4), .int .u64 vt59, .int .u64 most94, .bool false, .bool false, .pointer (some ⟨b5, 0, none⟩), .int .i64 vw1.Hi, .bool false, undef, undef, .bool (decide (vt60 > 0)), .int .u64 vt60, .bool (decide (vt60 > 0)), undef, undef, undef, undef, undef, undef, undef], []⟩) (by kernel_rfl) ?_
              refine wpList_nil ?_
              refine hK122 _ _ ?_
              have hq_ := ite_some h; clear h; rcases hq_ with ⟨c124, h⟩ | ⟨c124, h⟩
              · have c124 : vt60 > 0 := c124
                refine wpRwI 51 (x := (decide (vt60 > 0))) (v := true) (by kernel_rfl) (decide_eq_true c124) ?_
                refine wpRwI 53 (x := (decide (vt60 > 0))) (v := true) (by kernel_rfl) (decide_eq_true c124) ?_
                refine condT (by kernel_rfl) ?_
                refine wp_seq_k (fun K125 hK126 => ?_)
                refine wp_region_lit ?_
                refine seqS6 (a' := ⟨#[.agg #[.int .i64 vw1.Hi, .int .u64 vw1.Lo], .int .i64 d2, .pointer (some ⟨b5, 0, none⟩), undef, .int .i64 (w64 ((w64 (u64 (0 - vt59))) - 1)), .int .i64 0, .pointer (some ⟨b19, 0, none⟩), .int .u64 vt59, .int .u64 vt60, .int .u64 most94, .int .i64 d2, .bool false, .agg #[.int .i64 vw1.Hi, .int .u64 vw1.Lo], .pointer (some ⟨b5, 0, none⟩), .int .i64 vw1.Hi, (j43 0), (j43 1), (j43 2), .pointer (some ⟨b19, 0, none⟩), .int .i64 x44, .int .u64 (u64 (x44)), .int .i64 d2, .int .u64 (u64 (d2)), .bool false, .tuple #[.int .u64 vt59, .int .u64 vt60], .pointer (some ⟨b19, 0, none⟩), .int .i64 x44, .int .u64 (u64 (x44)), .pointer (some ⟨b19, 1, none⟩), .int .u64 x45, .int .i64 d2, .int .u64 (u64 (d2)), .tuple #[.int .u64 vt59, .int .u64 vt60], .int .u64 vt59, .int .u64 vt60, .pointer (some ⟨b5, 0, none⟩), .int .i64 vw1.Hi, (j93 0), (j93 1), (j93 2), (j93 3), (j93 4), .int .u64 vt59, .int .u64 most94, .bool false, .bool false, .pointer (some ⟨b5, 0, none⟩), .int .i64 vw1.Hi, .bool false, undef, undef, .bool true, .int .u64 vt60, .bool true, .int .u64 vt59, .int .u64 (u64 (0 - vt59)), .int .i64 (w64 (u64 (0 - vt59))), .int .i64 (w64 ((w64 (u64 (0 - vt59))) - 1)), undef, undef, undef], []⟩) (by kernel_rfl) ?_
                refine wpList_nil ?_
                refine hK126 _ _ ?_
                refine wp_ret ?_
                refine hr111 _ _ ?_
                refine hret _ _ ?_
                refine ends_still (v := Value.tuple #[.int .i64 (w64 ((w64 (u64 (0 - vt59))) - 1)), .int .i64 0]) (by kernel_rfl) (by kernel_rfl) ?_
                have HS136 := HS92.drop
                have HS137 := HS136.drop
                injection h with h
                injection h with h0_ h
                subst h0_ h
                exact ⟨f89, rfl, (L40.trans (L63.trans L90)), HS137⟩
              · have c124 : ¬ (vt60 > 0) := c124
                refine wpRwI 51 (x := (decide (vt60 > 0))) (v := false) (by kernel_rfl) (decide_eq_false c124) ?_
                refine wpRwI 53 (x := (decide (vt60 > 0))) (v := false) (by kernel_rfl) (decide_eq_false c124) ?_
                refine condF (by kernel_rfl) ?_
                refine wp_skip ?_
                refine hn110 _ _ ?_
                refine hK107 _ _ ?_
                refine wp_seq_k (fun K127 hK128 => ?_)
                refine wp_region_lit ?_
                refine seqS5 (a' := ⟨#[.agg #[.int .i64 vw1.Hi, .int .u64 vw1.Lo], .int .i64 d2, .pointer (some ⟨b5, 0, none⟩), undef, .int .i64 (w64 (u64 (0 - vt59))), .int .i64 0, .pointer (some ⟨b19, 0, none⟩), .int .u64 vt59, .int .u64 vt60, .int .u64 most94, .int .i64 d2, .bool false, .agg #[.int .i64 vw1.Hi, .int .u64 vw1.Lo], .pointer (some ⟨b5, 0, none⟩), .int .i64 vw1.Hi, (j43 0), (j43 1), (j43 2), .pointer (some ⟨b19, 0, none⟩), .int .i64 x44, .int .u64 (u64 (x44)), .int .i64 d2, .int .u64 (u64 (d2)), .bool false, .tuple #[.int .u64 vt59, .int .u64 vt60], .pointer (some ⟨b19, 0, none⟩), .int .i64 x44, .int .u64 (u64 (x44)), .pointer (some ⟨b19, 1, none⟩), .int .u64 x45, .int .i64 d2, .int .u64 (u64 (d2)), .tuple #[.int .u64 vt59, .int .u64 vt60], .int .u64 vt59, .int .u64 vt60, .pointer (some ⟨b5, 0, none⟩), .int .i64 vw1.Hi, (j93 0), (j93 1), (j93 2), (j93 3), (j93 4), .int .u64 vt59, .int .u64 most94, .bool false, .bool false, .pointer (some ⟨b5, 0, none⟩), .int .i64 vw1.Hi, .bool false, undef, undef, .bool false, .int .u64 vt60, .bool false, undef, undef, undef, undef, .int .u64 vt59, .int .u64 (u64 (0 - vt59)), .int .i64 (w64 (u64 (0 - vt59)))], []⟩) (by kernel_rfl) ?_
                refine wpList_nil ?_
                refine hK128 _ _ ?_
                refine wp_ret ?_
                refine hret _ _ ?_
                refine ends_still (v := Value.tuple #[.int .i64 (w64 (u64 (0 - vt59))), .int .i64 0]) (by kernel_rfl) (by kernel_rfl) ?_
                have HS138 := HS92.drop
                have HS139 := HS138.drop
                injection h with h
                injection h with h0_ h
                subst h0_ h
                exact ⟨f89, rfl, (L40.trans (L63.trans L90)), HS139⟩
        clear h; have h := hv95; clear hv95
        have hq_ := ite_some h; clear h; rcases hq_ with ⟨c73, h⟩ | ⟨c73, h⟩
        · have c73 : vw1.Hi < 0 := c73
          refine wpRwI 37 (x := (decide (vw1.Hi < 0))) (v := true) (by kernel_rfl) (decide_eq_true c73) ?_
          refine condT (by kernel_rfl) ?_
          refine wp_seq_k (fun K74 hK75 => ?_)
          refine wp_region_lit ?_
          refine seqS1 (a' := ⟨#[.agg #[.int .i64 vw1.Hi, .int .u64 vw1.Lo], .int .i64 d2, .pointer (some ⟨b5, 0, none⟩), undef, .int .i64 0, .int .i64 0, .pointer (some ⟨b19, 0, none⟩), .int .u64 vt59, .int .u64 vt60, .int .u64 9223372036854775808, .int .i64 d2, .bool false, .agg #[.int .i64 vw1.Hi, .int .u64 vw1.Lo], .pointer (some ⟨b5, 0, none⟩), .int .i64 vw1.Hi, (j43 0), (j43 1), (j43 2), .pointer (some ⟨b19, 0, none⟩), .int .i64 x44, .int .u64 (u64 (x44)), .int .i64 d2, .int .u64 (u64 (d2)), .bool false, .tuple #[.int .u64 vt59, .int .u64 vt60], .pointer (some ⟨b19, 0, none⟩), .int .i64 x44, .int .u64 (u64 (x44)), .pointer (some ⟨b19, 1, none⟩), .int .u64 x45, .int .i64 d2, .int .u64 (u64 (d2)), .tuple #[.int .u64 vt59, .int .u64 vt60], .int .u64 vt59, .int .u64 vt60, .pointer (some ⟨b5, 0, none⟩), .int .i64 vw1.Hi, .bool true, undef, undef, undef, undef, undef, undef, undef, undef, undef, undef, undef, undef, undef, undef, undef, undef, undef, undef, undef, undef, undef, undef, undef], []⟩) (by kernel_rfl) ?_
          refine wpList_nil ?_
          refine hK75 _ _ ?_
          refine wp_seq_k (fun K76 hK77 => ?_)
          refine wp_region_lit ?_
          refine seqS2 (a' := ⟨#[.agg #[.int .i64 vw1.Hi, .int .u64 vw1.Lo], .int .i64 d2, .pointer (some ⟨b5, 0, none⟩), undef, .int .i64 0, .int .i64 0, .pointer (some ⟨b19, 0, none⟩), .int .u64 vt59, .int .u64 vt60, .int .u64 9223372036854775808, .int .i64 d2, .bool false, .agg #[.int .i64 vw1.Hi, .int .u64 vw1.Lo], .pointer (some ⟨b5, 0, none⟩), .int .i64 vw1.Hi, (j43 0), (j43 1), (j43 2), .pointer (some ⟨b19, 0, none⟩), .int .i64 x44, .int .u64 (u64 (x44)), .int .i64 d2, .int .u64 (u64 (d2)), .bool false, .tuple #[.int .u64 vt59, .int .u64 vt60], .pointer (some ⟨b19, 0, none⟩), .int .i64 x44, .int .u64 (u64 (x44)), .pointer (some ⟨b19, 1, none⟩), .int .u64 x45, .int .i64 d2, .int .u64 (u64 (d2)), .tuple #[.int .u64 vt59, .int .u64 vt60], .int .u64 vt59, .int .u64 vt60, .pointer (some ⟨b5, 0, none⟩), .int .i64 vw1.Hi, .bool true, .int .u64 vt60, .bool (decide (vt60 > 0)), undef, undef, undef, undef, undef, undef, undef, undef, undef, undef, undef, undef, undef, undef, undef, undef, undef, undef, undef, undef, undef], []⟩) (by kernel_rfl) ?_
          refine wpList_nil ?_
          refine hK77 _ _ ?_
          have hq_ := bind_some h; clear h; obtain ⟨v78, hv86, h⟩ := hq_
          have J87 : ∀ (f80 : FM) (most85 : Int) (j84 : Nat → Value) (W82 : World) (a_ : Act), FM.le f62 f80 → some (most85) = some v78 → St t W82 f80 ([(b19, .cells #[.int .i64 x44, .int .u64 x45] 95 (0, 0))] :: [(b5, .cells #[.int .i64 vw1.Hi, .int .u64 vw1.Lo] 95 (0, 0))] :: H) → a_ = ⟨#[.agg #[.int .i64 vw1.Hi, .int .u64 vw1.Lo], .int .i64 d2, .pointer (some ⟨b5, 0, none⟩), undef, .int .i64 0, .int .i64 0, .pointer (some ⟨b19, 0, none⟩), .int .u64 vt59, .int .u64 vt60, .int .u64 most85, .int .i64 d2, .bool false, .agg #[.int .i64 vw1.Hi, .int .u64 vw1.Lo], .pointer (some ⟨b5, 0, none⟩), .int .i64 vw1.Hi, (j43 0), (j43 1), (j43 2), .pointer (some ⟨b19, 0, none⟩), .int .i64 x44, .int .u64 (u64 (x44)), .int .i64 d2, .int .u64 (u64 (d2)), .bool false, .tuple #[.int .u64 vt59, .int .u64 vt60], .pointer (some ⟨b19, 0, none⟩), .int .i64 x44, .int .u64 (u64 (x44)), .pointer (some ⟨b19, 1, none⟩), .int .u64 x45, .int .i64 d2, .int .u64 (u64 (d2)), .tuple #[.int .u64 vt59, .int .u64 vt60], .int .u64 vt59, .int .u64 vt60, .pointer (some ⟨b5, 0, none⟩), .int .i64 vw1.Hi, .bool true, .int .u64 vt60, (j84 0), (j84 1), (j84 2), undef, undef, undef, undef, undef, undef, undef, undef, undef, undef, undef, undef, undef, undef, undef, undef, undef, undef, undef], []⟩ → K68 a_ W82 := by
            intro f80 most85 j84 W82 a_ L81 hj88 HS83  hfr_; subst hfr_
            injection hj88 with hj88; subst hj88; try dsimp only at h
            exact J96 f80 most85 (fun i_ => [Value.bool true, Value.int .u64 vt60, (j84 0), (j84 1), (j84 2)].getD i_ undef) W82 _ L81 h HS83 (by kernel_rfl)
          clear h; have h := hv86; clear hv86
          have hq_ := ite_some h; clear h; rcases hq_ with ⟨c79, h⟩ | ⟨c79, h⟩
          · have c79 : vt60 > 0 := c79
            refine wpRwI 39 (x := (decide (vt60 > 0))) (v := true) (by kernel_rfl) (decide_eq_true c79) ?_
            refine condT (by kernel_rfl) ?_
            refine wp_region_lit ?_
            refine seqS3 (a' := ⟨#[.agg #[.int .i64 vw1.Hi, .int .u64 vw1.Lo], .int .i64 d2, .pointer (some ⟨b5, 0, none⟩), undef, .int .i64 0, .int .i64 0, .pointer (some ⟨b19, 0, none⟩), .int .u64 vt59, .int .u64 vt60, .int .u64 (u64 (9223372036854775808 - 1)), .int .i64 d2, .bool false, .agg #[.int .i64 vw1.Hi, .int .u64 vw1.Lo], .pointer (some ⟨b5, 0, none⟩), .int .i64 vw1.Hi, (j43 0), (j43 1), (j43 2), .pointer (some ⟨b19, 0, none⟩), .int .i64 x44, .int .u64 (u64 (x44)), .int .i64 d2, .int .u64 (u64 (d2)), .bool false, .tuple #[.int .u64 vt59, .int .u64 vt60], .pointer (some ⟨b19, 0, none⟩), .int .i64 x44, .int .u64 (u64 (x44)), .pointer (some ⟨b19, 1, none⟩), .int .u64 x45, .int .i64 d2, .int .u64 (u64 (d2)), .tuple #[.int .u64 vt59, .int .u64 vt60], .int .u64 vt59, .int .u64 vt60, .pointer (some ⟨b5, 0, none⟩), .int .i64 vw1.Hi, .bool true, .int .u64 vt60, .bool true, .int .u64 9223372036854775808, .int .u64 (u64 (9223372036854775808 - 1)), undef, undef, undef, undef, undef, undef, undef, undef, undef, undef, undef, undef, undef, undef, undef, undef, undef, undef, undef], []⟩) (by kernel_rfl) ?_
            refine wpList_nil ?_
            exact J87 f62 (u64 (9223372036854775808 - 1)) (fun i_ => [Value.bool true, Value.int .u64 9223372036854775808, Value.int .u64 (u64 (9223372036854775808 - 1))].getD i_ undef) W64 _ (FM.le.refl _) h HS65 (by kernel_rfl)
          · have c79 : ¬ (vt60 > 0) := c79
            refine wpRwI 39 (x := (decide (vt60 > 0))) (v := false) (by kernel_rfl) (decide_eq_false c79) ?_
            refine condF (by kernel_rfl) ?_
            refine wp_skip ?_
            exact J87 f62 9223372036854775808 (fun i_ => [Value.bool false, undef, undef].getD i_ undef) W64 _ (FM.le.refl _) h HS65 (by kernel_rfl)
        · have c73 : ¬ (vw1.Hi < 0) := c73
          refine wpRwI 37 (x := (decide (vw1.Hi < 0))) (v := false) (by kernel_rfl) (decide_eq_false c73) ?_
          refine condF (by kernel_rfl) ?_
          refine wp_skip ?_
          exact J96 f62 9223372036854775807 (fun i_ => [Value.bool false, undef, undef, undef, undef].getD i_ undef) W64 _ (FM.le.refl _) h HS65 (by kernel_rfl)
    clear h; have h := hv46; clear hv46
    have hq_ := ite_some h; clear h; rcases hq_ with ⟨c30, h⟩ | ⟨c30, h⟩
    · have c30 : vw1.Hi < 0 := c30
      refine wpRwI 15 (x := (decide (vw1.Hi < 0))) (v := true) (by kernel_rfl) (decide_eq_true c30) ?_
      refine condT (by kernel_rfl) ?_
      refine wp_region_lit ?_
      refine seqK rfl (does_run (run_loadN (n := 2) rfl Try.underlying95 rfl (by kernel_rfl) (by kernel_rfl : _ = Value.pointer (some ⟨b5, 0, none⟩)) (cs := [.int .i64 vw1.Hi, .int .u64 vw1.Lo]) rfl (HS24.u1.cells 0 2 _ rfl)) ?_)
      have hq_ := bind_some h; clear h; obtain ⟨vt31, hc32, h⟩ := hq_
      refine seqK rfl (does_call (f := 56) (args := #[.agg #[.int .i64 vw1.Hi, .int .u64 vw1.Lo]]) (by kernel_rfl) (num_Wide_Neg.calls k vw1 HS24 vt31 hc32) ?_)
      rintro _ W35 ⟨f33, rfl, L34, HS36⟩
      refine ⟨_, rfl, ?_⟩
      refine seqK rfl (does_store (n := 2) (vs := [.int .i64 vt31.Hi, .int .u64 vt31.Lo]) (cs' := #[.int .i64 vt31.Hi, .int .u64 vt31.Lo]) rfl (by kernel_rfl) (by kernel_rfl : _ = Value.pointer (some ⟨b19, 0, none⟩)) (by kernel_rfl : _ = Value.agg #[.int .i64 vt31.Hi, .int .u64 vt31.Lo]) rfl rfl (by intro u_ hu_; simp only [List.mem_cons, List.not_mem_nil, or_false] at hu_; rcases hu_ with rfl | rfl <;> rfl) HS36 (Nat.le_of_ble_eq_true rfl) (by kernel_rfl) ?_)
      intro W37 HS38
      refine wpList_nil ?_
      exact J47 f33 vt31.Hi vt31.Lo (fun i_ => [Value.bool true, Value.agg #[.int .i64 vw1.Hi, .int .u64 vw1.Lo], Value.agg #[.int .i64 vt31.Hi, .int .u64 vt31.Lo]].getD i_ undef) W37 _ L34 h HS38 (by kernel_rfl)
    · have c30 : ¬ (vw1.Hi < 0) := c30
      refine wpRwI 15 (x := (decide (vw1.Hi < 0))) (v := false) (by kernel_rfl) (decide_eq_false c30) ?_
      refine condF (by kernel_rfl) ?_
      refine wp_skip ?_
      exact J47 f vw1.Hi vw1.Lo (fun i_ => [Value.bool false, undef, undef].getD i_ undef) W23 _ (FM.le.refl _) h HS24 (by kernel_rfl)

set_option maxRecDepth 100000 in
set_option maxHeartbeats 4000000 in
theorem num_MulDiv.calls (k : Nat)  (a1 : Int) (b2 : Int) (c3 : Int) {t w : World} {f : FM} {H : List Seg} (HS : St t w f (H)) (r1 : Int) (r2 : Int) (h : num_MulDiv k a1 b2 c3 = some (r1, r2)) :
    Calls Try.prog 29 #[.int .i64 a1, .int .i64 b2, .int .i64 c3] w (fun e w' => ∃ (g : FM), e = .returned (Value.tuple #[.int .i64 r1, .int .i64 r2]) ∧ FM.le f g ∧ St t w' g (H)) := by
  unfold num_MulDiv at h
  refine enter Try.func29 rfl (tm := #[.int .i64 a1, .int .i64 b2, .int .i64 c3, undef, undef, undef, undef, undef, undef, undef, undef, undef, undef, undef, undef]) (by kernel_rfl) ?_
  intro B hret hnor hnp
  refine wp_seq_k (fun K4 hK5 => ?_)
  refine wp_region_lit ?_
  refine seqS2 (a' := ⟨#[.int .i64 a1, .int .i64 b2, .int .i64 c3, undef, undef, undef, .int .i64 0, .int .i64 0, undef, undef, undef, undef, undef, undef, undef], []⟩) (by kernel_rfl) ?_
  refine wpList_nil ?_
  refine hK5 _ _ ?_
  refine wp_seq_k (fun K6 hK7 => ?_)
  refine wp_region_lit ?_
  have hq_ := bind_some h; clear h; obtain ⟨vt8, hc9, h⟩ := hq_
  refine seqL2 (by kernel_rfl) ?_
  refine seqK rfl (does_call (f := 45) (args := #[.int .i64 a1, .int .i64 b2]) (by kernel_rfl) (num_Product.calls k a1 b2 HS vt8 hc9) ?_)
  rintro _ W12 ⟨f10, rfl, L11, HS13⟩
  refine ⟨_, rfl, ?_⟩
  have hq_ := bind_some h; clear h; obtain ⟨⟨vt14, vt15⟩, hc16, h⟩ := hq_
  refine seqL1 (by kernel_rfl) ?_
  refine seqK rfl (does_call (f := 46) (args := #[.agg #[.int .i64 vt8.Hi, .int .u64 vt8.Lo], .int .i64 c3]) (by kernel_rfl) (num_Wide_Div.calls k vt8 c3 HS13 vt14 vt15 hc16) ?_)
  rintro _ W19 ⟨f17, rfl, L18, HS20⟩
  refine ⟨_, rfl, ?_⟩
  refine seqS4 (a' := ⟨#[.int .i64 a1, .int .i64 b2, .int .i64 c3, undef, undef, undef, .int .i64 vt14, .int .i64 vt15, .int .i64 a1, .int .i64 b2, .agg #[.int .i64 vt8.Hi, .int .u64 vt8.Lo], .int .i64 c3, .tuple #[.int .i64 vt14, .int .i64 vt15], .int .i64 vt14, .int .i64 vt15], []⟩) (by kernel_rfl) ?_
  refine wpList_nil ?_
  refine hK7 _ _ ?_
  refine wp_ret ?_
  refine hret _ _ ?_
  refine ends_still (v := Value.tuple #[.int .i64 vt14, .int .i64 vt15]) (by kernel_rfl) (by kernel_rfl) ?_
  injection h with h
  injection h with h0_ h
  subst h0_ h
  exact ⟨f17, rfl, (L11.trans L18), HS20⟩

set_option maxRecDepth 100000 in
set_option maxHeartbeats 4000000 in
theorem sky_Pull_1.calls (k : Nat) (b1 : Nat) (v3 : Int) (x4 : Int) {t w : World} {f : FM} {H : List Seg} (HS : St t w f ([(b1, .cells #[.int .i64 v3] 2 (0, 0))] :: H)) (r1 : Int) (h : sky_Pull_1 k v3 x4 = some r1) :
    Calls Try.prog 28 #[.int .i64 x4, .pointer (some ⟨b1, 0, none⟩)] w (fun e w' => ∃ (g : FM), e = .returned (Value.int .i64 r1) ∧ FM.le f g ∧ St t w' g ([(b1, .cells #[.int .i64 v3] 2 (0, 0))] :: H)) := by
  unfold sky_Pull_1 at h
  refine enter Try.func28 rfl (tm := #[.int .i64 x4, .pointer (some ⟨b1, 0, none⟩), undef, undef, undef, undef, undef, undef, undef, undef, undef, undef, undef, undef, undef, undef, undef, undef, undef, undef, undef, undef, undef, undef, undef]) (by kernel_rfl) ?_
  intro B hret hnor hnp
  refine wp_seq_k (fun K5 hK6 => ?_)
  refine wp_region_lit ?_
  refine seqS1 (a' := ⟨#[.int .i64 x4, .pointer (some ⟨b1, 0, none⟩), undef, .int .i64 0, undef, undef, undef, undef, undef, undef, undef, undef, undef, undef, undef, undef, undef, undef, undef, undef, undef, undef, undef, undef, undef], []⟩) (by kernel_rfl) ?_
  refine wpList_nil ?_
  refine hK6 _ _ ?_
  refine wp_seq_k (fun K7 hK8 => ?_)
  refine wp_region_lit ?_
  refine seqL4 (by kernel_rfl) ?_
  refine seqK rfl (does_run (run_load rfl Try.underlying2 rfl (by kernel_rfl : _ = Value.pointer (some ⟨b1, 0, none⟩)) (HS.cell 0)) ?_)
  have hq_ := bind_some h; clear h; obtain ⟨⟨vt9, vt10⟩, hc11, h⟩ := hq_
  refine seqK rfl (does_call (f := 29) (args := #[.int .i64 9007199254740992, .int .i64 (mx x4 (w64 (0 - x4))), .int .i64 v3]) (by kernel_rfl) (num_MulDiv.calls k 9007199254740992 (mx x4 (w64 (0 - x4))) v3 HS vt9 vt10 hc11) ?_)
  rintro _ W14 ⟨f12, rfl, L13, HS15⟩
  refine ⟨_, rfl, ?_⟩
  refine seqS5 (a' := ⟨#[.int .i64 x4, .pointer (some ⟨b1, 0, none⟩), undef, .int .i64 0, .int .i64 vt9, .int .i64 vt10, .tuple #[.int .i64 vt9, .int .i64 vt10], .int .i64 x4, .int .i64 x4, .int .i64 (w64 (0 - x4)), .int .i64 (mx x4 (w64 (0 - x4))), .int .i64 v3, .tuple #[.int .i64 vt9, .int .i64 vt10], .int .i64 vt9, .int .i64 vt10, undef, undef, undef, undef, undef, undef, undef, undef, undef, undef], []⟩) (by kernel_rfl) ?_
  refine wpList_nil ?_
  refine hK8 _ _ ?_
  refine wp_seq_k (fun K16 hK17 => ?_)
  refine wp_region_lit ?_
  refine seqL1 (by kernel_rfl) ?_
  refine seqK rfl (does_run (run_load rfl Try.underlying2 rfl (by kernel_rfl : _ = Value.pointer (some ⟨b1, 0, none⟩)) (HS15.cell 0)) ?_)
  refine seqK rfl (does_run (run_load rfl Try.underlying2 rfl (by kernel_rfl : _ = Value.pointer (some ⟨b1, 0, none⟩)) (HS15.cell 0)) ?_)
  have hq_ := guard_some h; clear h; obtain ⟨c18, h⟩ := hq_
  have c18 : ¬ ((w64 (v3 * v3)) = 0) := c18
  refine seqL1 (by kernel_rfl) ?_
  refine seqK rfl (does_run (run_div rfl (by kernel_rfl : _ = Value.int .i64 vt9) (by kernel_rfl : _ = Value.int .i64 (w64 (v3 * v3))) c18 W14) ?_)
  refine seqS1 (a' := ⟨#[.int .i64 x4, .pointer (some ⟨b1, 0, none⟩), undef, .int .i64 0, .int .i64 (w64 (Int.tdiv vt9 (w64 (v3 * v3)))), .int .i64 vt10, .tuple #[.int .i64 vt9, .int .i64 vt10], .int .i64 x4, .int .i64 x4, .int .i64 (w64 (0 - x4)), .int .i64 (mx x4 (w64 (0 - x4))), .int .i64 v3, .tuple #[.int .i64 vt9, .int .i64 vt10], .int .i64 vt9, .int .i64 vt10, .int .i64 vt9, .int .i64 v3, .int .i64 v3, .int .i64 (w64 (v3 * v3)), .int .i64 (w64 (Int.tdiv vt9 (w64 (v3 * v3)))), undef, undef, undef, undef, undef], []⟩) (by kernel_rfl) ?_
  refine wpList_nil ?_
  refine hK17 _ _ ?_
  refine wp_seq_k (fun K19 hK20 => ?_)
  refine wp_seq_k (fun K21 hK22 => ?_)
  refine wp_region_lit ?_
  refine seqS2 (a' := ⟨#[.int .i64 x4, .pointer (some ⟨b1, 0, none⟩), undef, .int .i64 0, .int .i64 (w64 (Int.tdiv vt9 (w64 (v3 * v3)))), .int .i64 vt10, .tuple #[.int .i64 vt9, .int .i64 vt10], .int .i64 x4, .int .i64 x4, .int .i64 (w64 (0 - x4)), .int .i64 (mx x4 (w64 (0 - x4))), .int .i64 v3, .tuple #[.int .i64 vt9, .int .i64 vt10], .int .i64 vt9, .int .i64 vt10, .int .i64 vt9, .int .i64 v3, .int .i64 v3, .int .i64 (w64 (v3 * v3)), .int .i64 (w64 (Int.tdiv vt9 (w64 (v3 * v3)))), .int .i64 x4, .bool (decide (x4 > 0)), undef, undef, undef], []⟩) (by kernel_rfl) ?_
  refine wpList_nil ?_
  refine hK22 _ _ ?_
  have hq_ := ite_some h; clear h; rcases hq_ with ⟨c24, h⟩ | ⟨c24, h⟩
  · have c24 : x4 > 0 := c24
    refine wpRwI 21 (x := (decide (x4 > 0))) (v := true) (by kernel_rfl) (decide_eq_true c24) ?_
    refine condT (by kernel_rfl) ?_
    refine wp_seq_k (fun K25 hK26 => ?_)
    refine wp_region_lit ?_
    refine seqS3 (a' := ⟨#[.int .i64 x4, .pointer (some ⟨b1, 0, none⟩), undef, .int .i64 (w64 (0 - (w64 (Int.tdiv vt9 (w64 (v3 * v3)))))), .int .i64 (w64 (Int.tdiv vt9 (w64 (v3 * v3)))), .int .i64 vt10, .tuple #[.int .i64 vt9, .int .i64 vt10], .int .i64 x4, .int .i64 x4, .int .i64 (w64 (0 - x4)), .int .i64 (mx x4 (w64 (0 - x4))), .int .i64 v3, .tuple #[.int .i64 vt9, .int .i64 vt10], .int .i64 vt9, .int .i64 vt10, .int .i64 vt9, .int .i64 v3, .int .i64 v3, .int .i64 (w64 (v3 * v3)), .int .i64 (w64 (Int.tdiv vt9 (w64 (v3 * v3)))), .int .i64 x4, .bool true, .int .i64 (w64 (Int.tdiv vt9 (w64 (v3 * v3)))), .int .i64 (w64 (0 - (w64 (Int.tdiv vt9 (w64 (v3 * v3)))))), undef], []⟩) (by kernel_rfl) ?_
    refine wpList_nil ?_
    refine hK26 _ _ ?_
    refine wp_ret ?_
    refine hret _ _ ?_
    refine ends_still (v := Value.int .i64 (w64 (0 - (w64 (Int.tdiv vt9 (w64 (v3 * v3))))))) (by kernel_rfl) (by kernel_rfl) ?_
    injection h with h
    subst h
    exact ⟨f12, rfl, L13, HS15⟩
  · have c24 : ¬ (x4 > 0) := c24
    refine wpRwI 21 (x := (decide (x4 > 0))) (v := false) (by kernel_rfl) (decide_eq_false c24) ?_
    refine condF (by kernel_rfl) ?_
    refine wp_skip ?_
    refine hK20 _ _ ?_
    refine wp_seq_k (fun K27 hK28 => ?_)
    refine wp_region_lit ?_
    refine seqS2 (a' := ⟨#[.int .i64 x4, .pointer (some ⟨b1, 0, none⟩), undef, .int .i64 (w64 (Int.tdiv vt9 (w64 (v3 * v3)))), .int .i64 (w64 (Int.tdiv vt9 (w64 (v3 * v3)))), .int .i64 vt10, .tuple #[.int .i64 vt9, .int .i64 vt10], .int .i64 x4, .int .i64 x4, .int .i64 (w64 (0 - x4)), .int .i64 (mx x4 (w64 (0 - x4))), .int .i64 v3, .tuple #[.int .i64 vt9, .int .i64 vt10], .int .i64 vt9, .int .i64 vt10, .int .i64 vt9, .int .i64 v3, .int .i64 v3, .int .i64 (w64 (v3 * v3)), .int .i64 (w64 (Int.tdiv vt9 (w64 (v3 * v3)))), .int .i64 x4, .bool false, undef, undef, .int .i64 (w64 (Int.tdiv vt9 (w64 (v3 * v3))))], []⟩) (by kernel_rfl) ?_
    refine wpList_nil ?_
    refine hK28 _ _ ?_
    refine wp_ret ?_
    refine hret _ _ ?_
    refine ends_still (v := Value.int .i64 (w64 (Int.tdiv vt9 (w64 (v3 * v3))))) (by kernel_rfl) (by kernel_rfl) ?_
    injection h with h
    subst h
    exact ⟨f12, rfl, L13, HS15⟩

set_option maxRecDepth 100000 in
set_option maxHeartbeats 4000000 in
theorem sky_Pull.calls (k : Nat)  (vat1 : S_Vec) {t w : World} {f : FM} {H : List Seg} (HS : St t w f (H)) (r1 : S_Vec) (h : sky_Pull k vat1 = some r1) :
    Calls Try.prog 10 #[.agg #[.int .i64 vat1.X, .int .i64 vat1.Y, .int .i64 vat1.Z]] w (fun e w' => ∃ (g : FM), e = .returned (Value.agg #[.int .i64 r1.X, .int .i64 r1.Y, .int .i64 r1.Z]) ∧ FM.le f g ∧ St t w' g (H)) := by
  unfold sky_Pull at h
  refine enter Try.func10 rfl (tm := #[.agg #[.int .i64 vat1.X, .int .i64 vat1.Y, .int .i64 vat1.Z], undef, undef, undef, undef, undef, undef, undef, undef, undef, undef, undef, undef, undef, undef, undef, undef, undef, undef, undef, undef, undef, undef, undef, undef, undef, undef, undef, undef, undef, undef, undef, undef, undef, undef, undef, undef, undef, undef, undef, undef, undef, undef, undef]) (by kernel_rfl) ?_
  intro B hret hnor hnp
  refine wp_seq_k (fun K2 hK3 => ?_)
  refine wp_region_lit ?_
  refine seqK rfl (does_box (cs := #[.int .i64 vat1.X, .int .i64 vat1.Y, .int .i64 vat1.Z]) rfl (by kernel_rfl : _ = Value.agg #[.int .i64 vat1.X, .int .i64 vat1.Y, .int .i64 vat1.Z]) rfl HS ?_)
  intro b4 W5 HS6
  refine seqK rfl (does_alloc (z := Value.agg #[.int .i64 0, .int .i64 0, .int .i64 0]) (cs := #[.int .i64 0, .int .i64 0, .int .i64 0]) rfl (by kernel_rfl) rfl HS6 ?_)
  intro b8 W9 HS10
  refine wpList_nil ?_
  refine hK3 _ _ ?_
  refine wp_seq_k (fun K12 hK13 => ?_)
  refine wp_seq_k (fun K14 hK15 => ?_)
  refine wp_region_lit ?_
  refine seqK rfl (does_run (run_loadN (n := 3) rfl Try.underlying23 rfl (by kernel_rfl) (by kernel_rfl : _ = Value.pointer (some ⟨b4, 0, none⟩)) (cs := [.int .i64 vat1.X, .int .i64 vat1.Y, .int .i64 vat1.Z]) rfl (HS10.u1.cells 0 3 _ rfl)) ?_)
  have hq_ := bind_some h; clear h; obtain ⟨vt16, hc17, h⟩ := hq_
  refine seqK rfl (does_call (f := 26) (args := #[.agg #[.int .i64 vat1.X, .int .i64 vat1.Y, .int .i64 vat1.Z], .int .i64 4194304]) (by kernel_rfl) (sky_within.calls k vat1 4194304 HS10 vt16 hc17) ?_)
  rintro _ W20 ⟨f18, rfl, L19, HS21⟩
  refine ⟨_, rfl, ?_⟩
  refine seqS1 (a' := ⟨#[.agg #[.int .i64 vat1.X, .int .i64 vat1.Y, .int .i64 vat1.Z], .pointer (some ⟨b4, 0, none⟩), .pointer (some ⟨b8, 0, none⟩), undef, undef, .agg #[.int .i64 vat1.X, .int .i64 vat1.Y, .int .i64 vat1.Z], .bool vt16, .bool (!vt16), undef, undef, undef, undef, undef, undef, undef, undef, undef, undef, undef, undef, undef, undef, undef, undef, undef, undef, undef, undef, undef, undef, undef, undef, undef, undef, undef, undef, undef, undef, undef, undef, undef, undef, undef, undef], []⟩) (by kernel_rfl) ?_
  refine wpList_nil ?_
  refine hK15 _ _ ?_
  have hq_ := ite_some h; clear h; rcases hq_ with ⟨c23, h⟩ | ⟨c23, h⟩
  · have c23 : ¬ (vt16 = true) := c23
    refine wpRwI 7 (x := (!vt16)) (v := true) (by kernel_rfl) (congrArg (fun b_ => !b_) (show vt16 = false from (Bool.eq_false_iff.mpr c23)) : (!vt16) = true) ?_
    refine condT (by kernel_rfl) ?_
    refine wp_seq_k (fun K24 hK25 => ?_)
    refine wp_region_lit ?_
    refine seqL1 (by kernel_rfl) ?_
    refine seqK rfl (does_store (n := 3) (vs := [.int .i64 0, .int .i64 0, .int .i64 0]) (cs' := #[.int .i64 0, .int .i64 0, .int .i64 0]) rfl (by kernel_rfl) (by kernel_rfl : _ = Value.pointer (some ⟨b8, 0, none⟩)) (by kernel_rfl : _ = Value.agg #[.int .i64 0, .int .i64 0, .int .i64 0]) rfl rfl (by intro u_ hu_; simp only [List.mem_cons, List.not_mem_nil, or_false] at hu_; rcases hu_ with rfl | rfl | rfl <;> rfl) HS21 (Nat.le_of_ble_eq_true rfl) (by kernel_rfl) ?_)
    intro W26 HS27
    refine wpList_nil ?_
    refine hK25 _ _ ?_
    refine wp_ret ?_
    refine hret _ _ ?_
    refine ends (v := Value.agg #[.int .i64 0, .int .i64 0, .int .i64 0]) (results1 (q1 := .cell 2 23) (by kernel_rfl) (resN (n := 3) (cs := [.int .i64 0, .int .i64 0, .int .i64 0]) (by kernel_rfl : _ = Value.pointer (some ⟨b8, 0, none⟩)) Try.underlying23 rfl (by kernel_rfl) rfl (HS27.cells 0 3 _ rfl))) (by kernel_rfl) ?_
    have HS94 := HS27.drop
    have HS95 := HS94.drop
    injection h with h
    subst h
    exact ⟨f18, rfl, L19, HS95⟩
  · have c23 : ¬ (¬ (vt16 = true)) := c23
    refine wpRwI 7 (x := (!vt16)) (v := false) (by kernel_rfl) (congrArg (fun b_ => !b_) (show vt16 = true from (Decidable.of_not_not c23)) : (!vt16) = false) ?_
    refine condF (by kernel_rfl) ?_
    refine wp_skip ?_
    refine hK13 _ _ ?_
    refine wp_seq_k (fun K28 hK29 => ?_)
    refine wp_region_lit ?_
    refine seqL1 (by kernel_rfl) ?_
    refine seqK rfl (does_run (run_load rfl Try.underlying2 rfl (by kernel_rfl : _ = Value.pointer (some ⟨b4, 0, none⟩)) (HS21.u1.cell 0)) ?_)
    refine seqL1 (by kernel_rfl) ?_
    refine seqK rfl (does_run (run_load rfl Try.underlying2 rfl (by kernel_rfl : _ = Value.pointer (some ⟨b4, 0, none⟩)) (HS21.u1.cell 0)) ?_)
    refine seqL2 (by kernel_rfl) ?_
    refine seqK rfl (does_run (run_load rfl Try.underlying2 rfl (by kernel_rfl : _ = Value.pointer (some ⟨b4, 1, none⟩)) (HS21.u1.cell 1)) ?_)
    refine seqL1 (by kernel_rfl) ?_
    refine seqK rfl (does_run (run_load rfl Try.underlying2 rfl (by kernel_rfl : _ = Value.pointer (some ⟨b4, 1, none⟩)) (HS21.u1.cell 1)) ?_)
    refine seqL3 (by kernel_rfl) ?_
    refine seqK rfl (does_run (run_load rfl Try.underlying2 rfl (by kernel_rfl : _ = Value.pointer (some ⟨b4, 2, none⟩)) (HS21.u1.cell 2)) ?_)
    refine seqL1 (by kernel_rfl) ?_
    refine seqK rfl (does_run (run_load rfl Try.underlying2 rfl (by kernel_rfl : _ = Value.pointer (some ⟨b4, 2, none⟩)) (HS21.u1.cell 2)) ?_)
    have hq_ := bind_some h; clear h; obtain ⟨vt30, hc31, h⟩ := hq_
    refine seqL2 (by kernel_rfl) ?_
    refine seqK rfl (does_call (f := 27) (args := #[.int .i64 (w64 ((w64 ((w64 (vat1.X * vat1.X)) + (w64 (vat1.Y * vat1.Y)))) + (w64 (vat1.Z * vat1.Z))))]) (by kernel_rfl) (num_Sqrt.calls k (w64 ((w64 ((w64 (vat1.X * vat1.X)) + (w64 (vat1.Y * vat1.Y)))) + (w64 (vat1.Z * vat1.Z)))) HS21 vt30 hc31) ?_)
    rintro _ W34 ⟨f32, rfl, L33, HS35⟩
    refine ⟨_, rfl, ?_⟩
    refine seqK rfl (does_alloc (z := Value.int .i64 0) (cs := #[.int .i64 0]) rfl (by kernel_rfl) rfl HS35 ?_)
    intro b36 W37 HS38
    refine seqK rfl (does_store (n := 1) (vs := [.int .i64 vt30]) (cs' := #[.int .i64 vt30]) rfl (by kernel_rfl) (by kernel_rfl : _ = Value.pointer (some ⟨b36, 0, none⟩)) (by kernel_rfl : _ = Value.int .i64 vt30) rfl rfl (by intro u_ hu_; simp only [List.mem_cons, List.not_mem_nil, or_false] at hu_; subst hu_; rfl) HS38 (Nat.le_of_ble_eq_true rfl) (by kernel_rfl) ?_)
    intro W40 HS41
    refine wpList_nil ?_
    refine hK29 _ _ ?_
    refine wp_seq_k (fun K42 hK43 => ?_)
    refine wp_seq_k (fun K44 hK45 => ?_)
    refine wp_region_lit ?_
    refine seqK rfl (does_run (run_load rfl Try.underlying2 rfl (by kernel_rfl : _ = Value.pointer (some ⟨b36, 0, none⟩)) (HS41.cell 0)) ?_)
    refine seqS1 (a' := ⟨#[.agg #[.int .i64 vat1.X, .int .i64 vat1.Y, .int .i64 vat1.Z], .pointer (some ⟨b4, 0, none⟩), .pointer (some ⟨b8, 0, none⟩), .pointer (some ⟨b36, 0, none⟩), undef, .agg #[.int .i64 vat1.X, .int .i64 vat1.Y, .int .i64 vat1.Z], .bool vt16, .bool false, undef, .pointer (some ⟨b4, 0, none⟩), .int .i64 vat1.X, .pointer (some ⟨b4, 0, none⟩), .int .i64 vat1.X, .int .i64 (w64 (vat1.X * vat1.X)), .pointer (some ⟨b4, 1, none⟩), .int .i64 vat1.Y, .pointer (some ⟨b4, 1, none⟩), .int .i64 vat1.Y, .int .i64 (w64 (vat1.Y * vat1.Y)), .int .i64 (w64 ((w64 (vat1.X * vat1.X)) + (w64 (vat1.Y * vat1.Y)))), .pointer (some ⟨b4, 2, none⟩), .int .i64 vat1.Z, .pointer (some ⟨b4, 2, none⟩), .int .i64 vat1.Z, .int .i64 (w64 (vat1.Z * vat1.Z)), .int .i64 (w64 ((w64 ((w64 (vat1.X * vat1.X)) + (w64 (vat1.Y * vat1.Y)))) + (w64 (vat1.Z * vat1.Z)))), .int .i64 vt30, .int .i64 vt30, .bool (decide (vt30 < 65536)), undef, undef, undef, undef, undef, undef, undef, undef, undef, undef, undef, undef, undef, undef, undef], []⟩) (by kernel_rfl) ?_
    refine wpList_nil ?_
    refine hK45 _ _ ?_
    have hq_ := ite_some h; clear h; rcases hq_ with ⟨c47, h⟩ | ⟨c47, h⟩
    · have c47 : vt30 < 65536 := c47
      refine wpRwI 28 (x := (decide (vt30 < 65536))) (v := true) (by kernel_rfl) (decide_eq_true c47) ?_
      refine condT (by kernel_rfl) ?_
      refine wp_seq_k (fun K48 hK49 => ?_)
      refine wp_region_lit ?_
      have HS50 := HS41.u1
      refine seqL1 (by kernel_rfl) ?_
      refine seqK rfl (does_store (n := 3) (vs := [.int .i64 0, .int .i64 0, .int .i64 0]) (cs' := #[.int .i64 0, .int .i64 0, .int .i64 0]) rfl (by kernel_rfl) (by kernel_rfl : _ = Value.pointer (some ⟨b8, 0, none⟩)) (by kernel_rfl : _ = Value.agg #[.int .i64 0, .int .i64 0, .int .i64 0]) rfl rfl (by intro u_ hu_; simp only [List.mem_cons, List.not_mem_nil, or_false] at hu_; rcases hu_ with rfl | rfl | rfl <;> rfl) HS50 (Nat.le_of_ble_eq_true rfl) (by kernel_rfl) ?_)
      intro W51 HS52
      refine wpList_nil ?_
      refine hK49 _ _ ?_
      refine wp_ret ?_
      refine hret _ _ ?_
      refine ends (v := Value.agg #[.int .i64 0, .int .i64 0, .int .i64 0]) (results1 (q1 := .cell 2 23) (by kernel_rfl) (resN (n := 3) (cs := [.int .i64 0, .int .i64 0, .int .i64 0]) (by kernel_rfl : _ = Value.pointer (some ⟨b8, 0, none⟩)) Try.underlying23 rfl (by kernel_rfl) rfl (HS52.cells 0 3 _ rfl))) (by kernel_rfl) ?_
      have HS96 := HS52.drop
      have HS97 := HS96.drop
      have HS98 := HS97.drop
      injection h with h
      subst h
      exact ⟨f32, rfl, (L19.trans L33), HS98⟩
    · have c47 : ¬ (vt30 < 65536) := c47
      refine wpRwI 28 (x := (decide (vt30 < 65536))) (v := false) (by kernel_rfl) (decide_eq_false c47) ?_
      refine condF (by kernel_rfl) ?_
      refine wp_skip ?_
      refine hK43 _ _ ?_
      refine wp_seq_k (fun K53 hK54 => ?_)
      refine wp_region_lit ?_
      refine seqS2 (a' := ⟨#[.agg #[.int .i64 vat1.X, .int .i64 vat1.Y, .int .i64 vat1.Z], .pointer (some ⟨b4, 0, none⟩), .pointer (some ⟨b8, 0, none⟩), .pointer (some ⟨b36, 0, none⟩), .func (.func 28) #[] #[.pointer (some ⟨b36, 0, none⟩)], .agg #[.int .i64 vat1.X, .int .i64 vat1.Y, .int .i64 vat1.Z], .bool vt16, .bool false, undef, .pointer (some ⟨b4, 0, none⟩), .int .i64 vat1.X, .pointer (some ⟨b4, 0, none⟩), .int .i64 vat1.X, .int .i64 (w64 (vat1.X * vat1.X)), .pointer (some ⟨b4, 1, none⟩), .int .i64 vat1.Y, .pointer (some ⟨b4, 1, none⟩), .int .i64 vat1.Y, .int .i64 (w64 (vat1.Y * vat1.Y)), .int .i64 (w64 ((w64 (vat1.X * vat1.X)) + (w64 (vat1.Y * vat1.Y)))), .pointer (some ⟨b4, 2, none⟩), .int .i64 vat1.Z, .pointer (some ⟨b4, 2, none⟩), .int .i64 vat1.Z, .int .i64 (w64 (vat1.Z * vat1.Z)), .int .i64 (w64 ((w64 ((w64 (vat1.X * vat1.X)) + (w64 (vat1.Y * vat1.Y)))) + (w64 (vat1.Z * vat1.Z)))), .int .i64 vt30, .int .i64 vt30, .bool false, undef, .func (.func 28) #[] #[.pointer (some ⟨b36, 0, none⟩)], undef, undef, undef, undef, undef, undef, undef, undef, undef, undef, undef, undef, undef], []⟩) (by kernel_rfl) ?_
      refine wpList_nil ?_
      refine hK54 _ _ ?_
      refine wp_seq_k (fun K55 hK56 => ?_)
      have HS57 := HS41.u2
      have HS58 := HS57.u1
      have HS59 := HS58.u2
      refine heldG (S := Sg t f32 ([(b36, .cells #[.int .i64 vt30] 2 (0, 0))] :: [(b4, .cells #[.int .i64 vat1.X, .int .i64 vat1.Y, .int .i64 vat1.Z] 23 (0, 0))] :: H) [(13, [(b8, .cells #[.int .i64 0, .int .i64 0, .int .i64 0] 23 (0, 0))])]) (n := 14) (by kernel_rfl) rfl HS59 ?_
      intro W60 HS61
      refine takeG [0, 1] (n := 14) (fuel := 12) (l' := #[true, true, false, false, false, false, false, false, false, false, false, false, false, false]) (a' := ⟨#[.agg #[.int .i64 vat1.X, .int .i64 vat1.Y, .int .i64 vat1.Z], .pointer (some ⟨b4, 0, none⟩), .pointer (some ⟨b8, 0, none⟩), .pointer (some ⟨b36, 0, none⟩), .func (.func 28) #[] #[.pointer (some ⟨b36, 0, none⟩)], .agg #[.int .i64 vat1.X, .int .i64 vat1.Y, .int .i64 vat1.Z], .bool vt16, .bool false, undef, .pointer (some ⟨b4, 0, none⟩), .int .i64 vat1.X, .pointer (some ⟨b4, 0, none⟩), .int .i64 vat1.X, .int .i64 (w64 (vat1.X * vat1.X)), .pointer (some ⟨b4, 1, none⟩), .int .i64 vat1.Y, .pointer (some ⟨b4, 1, none⟩), .int .i64 vat1.Y, .int .i64 (w64 (vat1.Y * vat1.Y)), .int .i64 (w64 ((w64 (vat1.X * vat1.X)) + (w64 (vat1.Y * vat1.Y)))), .pointer (some ⟨b4, 2, none⟩), .int .i64 vat1.Z, .pointer (some ⟨b4, 2, none⟩), .int .i64 vat1.Z, .int .i64 (w64 (vat1.Z * vat1.Z)), .int .i64 (w64 ((w64 ((w64 (vat1.X * vat1.X)) + (w64 (vat1.Y * vat1.Y)))) + (w64 (vat1.Z * vat1.Z)))), .int .i64 vt30, .int .i64 vt30, .bool false, undef, .func (.func 28) #[] #[.pointer (some ⟨b36, 0, none⟩)], .func (.func 28) #[] #[.pointer (some ⟨b36, 0, none⟩)], .pointer (some ⟨b4, 0, none⟩), undef, undef, undef, undef, undef, undef, undef, undef, undef, undef, undef], []⟩) rfl (by kernel_rfl) (by kernel_rfl) (by kernel_rfl) hnp (Sg.g1 (Sx.of [[(b8, .cells #[.int .i64 0, .int .i64 0, .int .i64 0] 23 (0, 0))]] (FM.le.refl _) HS61) (fun _ => St.only [] HS61 (FM.le.refl _))) ?_
      refine takeGQ 2 [] rfl (by kernel_rfl) (by kernel_rfl) (by kernel_rfl) (by kernel_rfl) (by kernel_rfl) (by kernel_rfl) hnp (Sg.g1 (Sx.of [[(b8, .cells #[.int .i64 0, .int .i64 0, .int .i64 0] 23 (0, 0))]] (FM.le.refl _) HS61) (fun _ => St.only [] HS61 (FM.le.refl _))) (fun w_ hw_ => by obtain ⟨g_, hl_, hS_⟩ := hw_.st; exact run_load rfl Try.underlying2 rfl (by kernel_rfl : _ = Value.pointer (some ⟨b4, 0, none⟩)) (hS_.u1.cell 0)) ?_
      refine takeG [4, 5] (n := 11) (fuel := 9) (l' := #[true, true, true, false, true, true, false, false, false, false, false, false, false, false]) (a' := ⟨#[.agg #[.int .i64 vat1.X, .int .i64 vat1.Y, .int .i64 vat1.Z], .pointer (some ⟨b4, 0, none⟩), .pointer (some ⟨b8, 0, none⟩), .pointer (some ⟨b36, 0, none⟩), .func (.func 28) #[] #[.pointer (some ⟨b36, 0, none⟩)], .agg #[.int .i64 vat1.X, .int .i64 vat1.Y, .int .i64 vat1.Z], .bool vt16, .bool false, undef, .pointer (some ⟨b4, 0, none⟩), .int .i64 vat1.X, .pointer (some ⟨b4, 0, none⟩), .int .i64 vat1.X, .int .i64 (w64 (vat1.X * vat1.X)), .pointer (some ⟨b4, 1, none⟩), .int .i64 vat1.Y, .pointer (some ⟨b4, 1, none⟩), .int .i64 vat1.Y, .int .i64 (w64 (vat1.Y * vat1.Y)), .int .i64 (w64 ((w64 (vat1.X * vat1.X)) + (w64 (vat1.Y * vat1.Y)))), .pointer (some ⟨b4, 2, none⟩), .int .i64 vat1.Z, .pointer (some ⟨b4, 2, none⟩), .int .i64 vat1.Z, .int .i64 (w64 (vat1.Z * vat1.Z)), .int .i64 (w64 ((w64 ((w64 (vat1.X * vat1.X)) + (w64 (vat1.Y * vat1.Y)))) + (w64 (vat1.Z * vat1.Z)))), .int .i64 vt30, .int .i64 vt30, .bool false, undef, .func (.func 28) #[] #[.pointer (some ⟨b36, 0, none⟩)], .func (.func 28) #[] #[.pointer (some ⟨b36, 0, none⟩)], .pointer (some ⟨b4, 0, none⟩), .int .i64 vat1.X, undef, .func (.func 28) #[] #[.pointer (some ⟨b36, 0, none⟩)], .pointer (some ⟨b4, 1, none⟩), undef, undef, undef, undef, undef, undef, undef], []⟩) rfl (by kernel_rfl) (by kernel_rfl) (by kernel_rfl) hnp (Sg.g1 (Sx.of [[(b8, .cells #[.int .i64 0, .int .i64 0, .int .i64 0] 23 (0, 0))]] (FM.le.refl _) HS61) (fun _ => St.only [] HS61 (FM.le.refl _))) ?_
      refine takeGQ 6 [] rfl (by kernel_rfl) (by kernel_rfl) (by kernel_rfl) (by kernel_rfl) (by kernel_rfl) (by kernel_rfl) hnp (Sg.g1 (Sx.of [[(b8, .cells #[.int .i64 0, .int .i64 0, .int .i64 0] 23 (0, 0))]] (FM.le.refl _) HS61) (fun _ => St.only [] HS61 (FM.le.refl _))) (fun w_ hw_ => by obtain ⟨g_, hl_, hS_⟩ := hw_.st; exact run_load rfl Try.underlying2 rfl (by kernel_rfl : _ = Value.pointer (some ⟨b4, 1, none⟩)) (hS_.u1.cell 1)) ?_
      refine takeG [8, 9] (n := 8) (fuel := 6) (l' := #[true, true, true, false, true, true, true, false, true, true, false, false, false, false]) (a' := ⟨#[.agg #[.int .i64 vat1.X, .int .i64 vat1.Y, .int .i64 vat1.Z], .pointer (some ⟨b4, 0, none⟩), .pointer (some ⟨b8, 0, none⟩), .pointer (some ⟨b36, 0, none⟩), .func (.func 28) #[] #[.pointer (some ⟨b36, 0, none⟩)], .agg #[.int .i64 vat1.X, .int .i64 vat1.Y, .int .i64 vat1.Z], .bool vt16, .bool false, undef, .pointer (some ⟨b4, 0, none⟩), .int .i64 vat1.X, .pointer (some ⟨b4, 0, none⟩), .int .i64 vat1.X, .int .i64 (w64 (vat1.X * vat1.X)), .pointer (some ⟨b4, 1, none⟩), .int .i64 vat1.Y, .pointer (some ⟨b4, 1, none⟩), .int .i64 vat1.Y, .int .i64 (w64 (vat1.Y * vat1.Y)), .int .i64 (w64 ((w64 (vat1.X * vat1.X)) + (w64 (vat1.Y * vat1.Y)))), .pointer (some ⟨b4, 2, none⟩), .int .i64 vat1.Z, .pointer (some ⟨b4, 2, none⟩), .int .i64 vat1.Z, .int .i64 (w64 (vat1.Z * vat1.Z)), .int .i64 (w64 ((w64 ((w64 (vat1.X * vat1.X)) + (w64 (vat1.Y * vat1.Y)))) + (w64 (vat1.Z * vat1.Z)))), .int .i64 vt30, .int .i64 vt30, .bool false, undef, .func (.func 28) #[] #[.pointer (some ⟨b36, 0, none⟩)], .func (.func 28) #[] #[.pointer (some ⟨b36, 0, none⟩)], .pointer (some ⟨b4, 0, none⟩), .int .i64 vat1.X, undef, .func (.func 28) #[] #[.pointer (some ⟨b36, 0, none⟩)], .pointer (some ⟨b4, 1, none⟩), .int .i64 vat1.Y, undef, .func (.func 28) #[] #[.pointer (some ⟨b36, 0, none⟩)], .pointer (some ⟨b4, 2, none⟩), undef, undef, undef], []⟩) rfl (by kernel_rfl) (by kernel_rfl) (by kernel_rfl) hnp (Sg.g1 (Sx.of [[(b8, .cells #[.int .i64 0, .int .i64 0, .int .i64 0] 23 (0, 0))]] (FM.le.refl _) HS61) (fun _ => St.only [] HS61 (FM.le.refl _))) ?_
      refine takeGQ 10 [] rfl (by kernel_rfl) (by kernel_rfl) (by kernel_rfl) (by kernel_rfl) (by kernel_rfl) (by kernel_rfl) hnp (Sg.g1 (Sx.of [[(b8, .cells #[.int .i64 0, .int .i64 0, .int .i64 0] 23 (0, 0))]] (FM.le.refl _) HS61) (fun _ => St.only [] HS61 (FM.le.refl _))) (fun w_ hw_ => by obtain ⟨g_, hl_, hS_⟩ := hw_.st; exact run_load rfl Try.underlying2 rfl (by kernel_rfl : _ = Value.pointer (some ⟨b4, 2, none⟩)) (hS_.u1.cell 2)) ?_
      have HS62 := HS61.u1
      have hq_ := bind_some h; clear h; obtain ⟨vt63, hc64, h⟩ := hq_
      refine takeGE 3 (by kernel_rfl) rfl (by kernel_rfl) (does_call (f := 28) (args := #[.int .i64 vat1.X, .pointer (some ⟨b36, 0, none⟩)]) (by kernel_rfl) (sky_Pull_1.calls k b36 vt30 vat1.X HS62 vt63 hc64) ?_)
      rintro _ W67 ⟨f65, rfl, L66, HS68⟩
      refine ⟨_, rfl, ?_⟩
      have HS69 := HS68.u2
      have HS70 := HS69.u1
      have HS71 := HS70.u2
      refine ⟨(Sg.g1 (Sx.of [[(b8, .cells #[.int .i64 0, .int .i64 0, .int .i64 0] 23 (0, 0))]] L66 HS71) (fun _ => St.only [] HS71 L66)), ?_⟩
      have HS72 := HS71.u1
      have hq_ := bind_some h; clear h; obtain ⟨vt73, hc74, h⟩ := hq_
      refine takeGE 7 (by kernel_rfl) rfl (by kernel_rfl) (does_call (f := 28) (args := #[.int .i64 vat1.Y, .pointer (some ⟨b36, 0, none⟩)]) (by kernel_rfl) (sky_Pull_1.calls k b36 vt30 vat1.Y HS72 vt73 hc74) ?_)
      rintro _ W77 ⟨f75, rfl, L76, HS78⟩
      refine ⟨_, rfl, ?_⟩
      have HS79 := HS78.u2
      have HS80 := HS79.u1
      have HS81 := HS80.u2
      refine ⟨(Sg.g1 (Sx.of [[(b8, .cells #[.int .i64 0, .int .i64 0, .int .i64 0] 23 (0, 0))]] (L66.trans L76) HS81) (fun _ => St.only [] HS81 (L66.trans L76))), ?_⟩
      have HS82 := HS81.u1
      have hq_ := bind_some h; clear h; obtain ⟨vt83, hc84, h⟩ := hq_
      refine takeGE 11 (by kernel_rfl) rfl (by kernel_rfl) (does_call (f := 28) (args := #[.int .i64 vat1.Z, .pointer (some ⟨b36, 0, none⟩)]) (by kernel_rfl) (sky_Pull_1.calls k b36 vt30 vat1.Z HS82 vt83 hc84) ?_)
      rintro _ W87 ⟨f85, rfl, L86, HS88⟩
      refine ⟨_, rfl, ?_⟩
      have HS89 := HS88.u2
      have HS90 := HS89.u1
      have HS91 := HS90.u2
      refine ⟨(Sg.g1 (Sx.of [[(b8, .cells #[.int .i64 0, .int .i64 0, .int .i64 0] 23 (0, 0))]] (L66.trans (L76.trans L86)) HS91) (fun _ => St.only [] HS91 (L66.trans (L76.trans L86)))), ?_⟩
      refine takeG [12] (n := 2) (fuel := 1) (l' := #[true, true, true, true, true, true, true, true, true, true, true, true, true, false]) (a' := ⟨#[.agg #[.int .i64 vat1.X, .int .i64 vat1.Y, .int .i64 vat1.Z], .pointer (some ⟨b4, 0, none⟩), .pointer (some ⟨b8, 0, none⟩), .pointer (some ⟨b36, 0, none⟩), .func (.func 28) #[] #[.pointer (some ⟨b36, 0, none⟩)], .agg #[.int .i64 vat1.X, .int .i64 vat1.Y, .int .i64 vat1.Z], .bool vt16, .bool false, undef, .pointer (some ⟨b4, 0, none⟩), .int .i64 vat1.X, .pointer (some ⟨b4, 0, none⟩), .int .i64 vat1.X, .int .i64 (w64 (vat1.X * vat1.X)), .pointer (some ⟨b4, 1, none⟩), .int .i64 vat1.Y, .pointer (some ⟨b4, 1, none⟩), .int .i64 vat1.Y, .int .i64 (w64 (vat1.Y * vat1.Y)), .int .i64 (w64 ((w64 (vat1.X * vat1.X)) + (w64 (vat1.Y * vat1.Y)))), .pointer (some ⟨b4, 2, none⟩), .int .i64 vat1.Z, .pointer (some ⟨b4, 2, none⟩), .int .i64 vat1.Z, .int .i64 (w64 (vat1.Z * vat1.Z)), .int .i64 (w64 ((w64 ((w64 (vat1.X * vat1.X)) + (w64 (vat1.Y * vat1.Y)))) + (w64 (vat1.Z * vat1.Z)))), .int .i64 vt30, .int .i64 vt30, .bool false, undef, .func (.func 28) #[] #[.pointer (some ⟨b36, 0, none⟩)], .func (.func 28) #[] #[.pointer (some ⟨b36, 0, none⟩)], .pointer (some ⟨b4, 0, none⟩), .int .i64 vat1.X, .int .i64 vt63, .func (.func 28) #[] #[.pointer (some ⟨b36, 0, none⟩)], .pointer (some ⟨b4, 1, none⟩), .int .i64 vat1.Y, .int .i64 vt73, .func (.func 28) #[] #[.pointer (some ⟨b36, 0, none⟩)], .pointer (some ⟨b4, 2, none⟩), .int .i64 vat1.Z, .int .i64 vt83, .agg #[.int .i64 vt63, .int .i64 vt73, .int .i64 vt83]], []⟩) rfl (by kernel_rfl) (by kernel_rfl) (by kernel_rfl) hnp (Sg.g1 (Sx.of [[(b8, .cells #[.int .i64 0, .int .i64 0, .int .i64 0] 23 (0, 0))]] (L66.trans (L76.trans L86)) HS91) (fun _ => St.only [] HS91 (L66.trans (L76.trans L86)))) ?_
      refine takeGE 13 (by kernel_rfl) rfl (by kernel_rfl) (does_store (n := 3) (vs := [.int .i64 vt63, .int .i64 vt73, .int .i64 vt83]) (cs' := #[.int .i64 vt63, .int .i64 vt73, .int .i64 vt83]) rfl (by kernel_rfl) (by kernel_rfl : _ = Value.pointer (some ⟨b8, 0, none⟩)) (by kernel_rfl : _ = Value.agg #[.int .i64 vt63, .int .i64 vt73, .int .i64 vt83]) rfl rfl (by intro u_ hu_; simp only [List.mem_cons, List.not_mem_nil, or_false] at hu_; rcases hu_ with rfl | rfl | rfl <;> rfl) HS91 (Nat.le_of_ble_eq_true rfl) (by kernel_rfl) ?_)
      intro W92 HS93
      refine ⟨(Sg.g1 (Sx.of [[(b8, .cells #[.int .i64 vt63, .int .i64 vt73, .int .i64 vt83] 23 (0, 0))]] (L66.trans (L76.trans L86)) HS93) (fun hl_ => Bool.noConfusion (show true = false from hl_))), ?_⟩
      refine doneG (by kernel_rfl) ?_ _
      refine hK56 _ _ ?_
      refine wp_ret ?_
      refine hret _ _ ?_
      refine ends (v := Value.agg #[.int .i64 vt63, .int .i64 vt73, .int .i64 vt83]) (results1 (q1 := .cell 2 23) (by kernel_rfl) (resN (n := 3) (cs := [.int .i64 vt63, .int .i64 vt73, .int .i64 vt83]) (by kernel_rfl : _ = Value.pointer (some ⟨b8, 0, none⟩)) Try.underlying23 rfl (by kernel_rfl) rfl (HS93.cells 0 3 _ rfl))) (by kernel_rfl) ?_
      have HS99 := HS93.drop
      have HS100 := HS99.drop
      have HS101 := HS100.drop
      injection h with h
      subst h
      exact ⟨f85, rfl, (L19.trans (L33.trans (L66.trans (L76.trans L86)))), HS101⟩

set_option maxRecDepth 100000 in
set_option maxHeartbeats 4000000 in
theorem sky_Step.calls (k : Nat)  (was1 : S_Vec) (here2 : S_Vec) {t w : World} {f : FM} {H : List Seg} (HS : St t w f (H)) (r1 : S_Vec) (r2 : Int) (h : sky_Step k was1 here2 = some (r1, r2)) :
    Calls Try.prog 8 #[.agg #[.int .i64 was1.X, .int .i64 was1.Y, .int .i64 was1.Z], .agg #[.int .i64 here2.X, .int .i64 here2.Y, .int .i64 here2.Z]] w (fun e w' => ∃ (g : FM), e = .returned (Value.tuple #[.agg #[.int .i64 r1.X, .int .i64 r1.Y, .int .i64 r1.Z], .int .i64 r2]) ∧ FM.le f g ∧ St t w' g (H)) := by
  unfold sky_Step at h
  refine enter Try.func8 rfl (tm := #[.agg #[.int .i64 was1.X, .int .i64 was1.Y, .int .i64 was1.Z], .agg #[.int .i64 here2.X, .int .i64 here2.Y, .int .i64 here2.Z], undef, undef, undef, undef, undef, undef, undef, undef, undef, undef, undef, undef, undef, undef, undef, undef, undef, undef, undef, undef, undef, undef, undef, undef, undef, undef, undef, undef, undef, undef, undef, undef, undef, undef, undef, undef, undef, undef, undef, undef, undef, undef, undef, undef, undef, undef, undef, undef, undef, undef]) (by kernel_rfl) ?_
  intro B hret hnor hnp
  refine wp_seq_k (fun K3 hK4 => ?_)
  refine wp_region_lit ?_
  refine seqK rfl (does_box (cs := #[.int .i64 was1.X, .int .i64 was1.Y, .int .i64 was1.Z]) rfl (by kernel_rfl : _ = Value.agg #[.int .i64 was1.X, .int .i64 was1.Y, .int .i64 was1.Z]) rfl HS ?_)
  intro b5 W6 HS7
  refine seqK rfl (does_box (cs := #[.int .i64 here2.X, .int .i64 here2.Y, .int .i64 here2.Z]) rfl (by kernel_rfl : _ = Value.agg #[.int .i64 here2.X, .int .i64 here2.Y, .int .i64 here2.Z]) rfl HS7 ?_)
  intro b9 W10 HS11
  refine seqK rfl (does_alloc (z := Value.agg #[.int .i64 0, .int .i64 0, .int .i64 0]) (cs := #[.int .i64 0, .int .i64 0, .int .i64 0]) rfl (by kernel_rfl) rfl HS11 ?_)
  intro b13 W14 HS15
  refine seqS1 (a' := ⟨#[.agg #[.int .i64 was1.X, .int .i64 was1.Y, .int .i64 was1.Z], .agg #[.int .i64 here2.X, .int .i64 here2.Y, .int .i64 here2.Z], .pointer (some ⟨b5, 0, none⟩), .pointer (some ⟨b9, 0, none⟩), .pointer (some ⟨b13, 0, none⟩), .int .i64 0, undef, undef, undef, undef, undef, undef, undef, undef, undef, undef, undef, undef, undef, undef, undef, undef, undef, undef, undef, undef, undef, undef, undef, undef, undef, undef, undef, undef, undef, undef, undef, undef, undef, undef, undef, undef, undef, undef, undef, undef, undef, undef, undef, undef, undef, undef], []⟩) (by kernel_rfl) ?_
  refine wpList_nil ?_
  refine hK4 _ _ ?_
  refine wp_seq_k (fun K17 hK18 => ?_)
  refine wp_seq_k (fun K19 hK20 => ?_)
  refine wp_region_lit ?_
  refine seqK rfl (does_run (run_loadN (n := 3) rfl Try.underlying23 rfl (by kernel_rfl) (by kernel_rfl : _ = Value.pointer (some ⟨b5, 0, none⟩)) (cs := [.int .i64 was1.X, .int .i64 was1.Y, .int .i64 was1.Z]) rfl (HS15.u2.cells 0 3 _ rfl)) ?_)
  have hq_ := bind_some h; clear h; obtain ⟨vt21, hc22, h⟩ := hq_
  refine seqK rfl (does_call (f := 26) (args := #[.agg #[.int .i64 was1.X, .int .i64 was1.Y, .int .i64 was1.Z], .int .i64 4194304]) (by kernel_rfl) (sky_within.calls k was1 4194304 HS15 vt21 hc22) ?_)
  rintro _ W25 ⟨f23, rfl, L24, HS26⟩
  refine ⟨_, rfl, ?_⟩
  refine seqS2 (a' := ⟨#[.agg #[.int .i64 was1.X, .int .i64 was1.Y, .int .i64 was1.Z], .agg #[.int .i64 here2.X, .int .i64 here2.Y, .int .i64 here2.Z], .pointer (some ⟨b5, 0, none⟩), .pointer (some ⟨b9, 0, none⟩), .pointer (some ⟨b13, 0, none⟩), .int .i64 0, undef, undef, .agg #[.int .i64 was1.X, .int .i64 was1.Y, .int .i64 was1.Z], .bool vt21, .bool (!vt21), .bool (!vt21), undef, undef, undef, undef, undef, undef, undef, undef, undef, undef, undef, undef, undef, undef, undef, undef, undef, undef, undef, undef, undef, undef, undef, undef, undef, undef, undef, undef, undef, undef, undef, undef, undef, undef, undef, undef, undef, undef, undef, undef], []⟩) (by kernel_rfl) ?_
  have hq_ := ite_some h; clear h; rcases hq_ with ⟨c27, h⟩ | ⟨c27, h⟩
  · have c27 : ¬ (vt21 = true) := c27
    refine seqRwI 10 (x := (!vt21)) (v := true) (by kernel_rfl) (congrArg (fun b_ => !b_) (show vt21 = false from (Bool.eq_false_iff.mpr c27)) : (!vt21) = true) ?_
    refine seqRwI 11 (x := (!vt21)) (v := true) (by kernel_rfl) (congrArg (fun b_ => !b_) (show vt21 = false from (Bool.eq_false_iff.mpr c27)) : (!vt21) = true) ?_
    refine seqS4 (a' := ⟨#[.agg #[.int .i64 was1.X, .int .i64 was1.Y, .int .i64 was1.Z], .agg #[.int .i64 here2.X, .int .i64 here2.Y, .int .i64 here2.Z], .pointer (some ⟨b5, 0, none⟩), .pointer (some ⟨b9, 0, none⟩), .pointer (some ⟨b13, 0, none⟩), .int .i64 0, undef, undef, .agg #[.int .i64 was1.X, .int .i64 was1.Y, .int .i64 was1.Z], .bool vt21, .bool true, .bool true, undef, undef, undef, .bool true, undef, undef, undef, undef, undef, undef, undef, undef, undef, undef, undef, undef, undef, undef, undef, undef, undef, undef, undef, undef, undef, undef, undef, undef, undef, undef, undef, undef, undef, undef, undef, undef, undef, undef, undef, undef], []⟩) (by kernel_rfl) ?_
    refine wpList_nil ?_
    refine hK20 _ _ ?_
    refine condT (by kernel_rfl) ?_
    refine wp_seq_k (fun K28 hK29 => ?_)
    refine wp_region_lit ?_
    refine seqL1 (by kernel_rfl) ?_
    refine seqK rfl (does_store (n := 3) (vs := [.int .i64 0, .int .i64 0, .int .i64 0]) (cs' := #[.int .i64 0, .int .i64 0, .int .i64 0]) rfl (by kernel_rfl) (by kernel_rfl : _ = Value.pointer (some ⟨b13, 0, none⟩)) (by kernel_rfl : _ = Value.agg #[.int .i64 0, .int .i64 0, .int .i64 0]) rfl rfl (by intro u_ hu_; simp only [List.mem_cons, List.not_mem_nil, or_false] at hu_; rcases hu_ with rfl | rfl | rfl <;> rfl) HS26 (Nat.le_of_ble_eq_true rfl) (by kernel_rfl) ?_)
    intro W30 HS31
    refine seqS1 (a' := ⟨#[.agg #[.int .i64 was1.X, .int .i64 was1.Y, .int .i64 was1.Z], .agg #[.int .i64 here2.X, .int .i64 here2.Y, .int .i64 here2.Z], .pointer (some ⟨b5, 0, none⟩), .pointer (some ⟨b9, 0, none⟩), .pointer (some ⟨b13, 0, none⟩), .int .i64 4, undef, undef, .agg #[.int .i64 was1.X, .int .i64 was1.Y, .int .i64 was1.Z], .bool vt21, .bool true, .bool true, undef, undef, undef, .bool true, .agg #[.int .i64 0, .int .i64 0, .int .i64 0], undef, undef, undef, undef, undef, undef, undef, undef, undef, undef, undef, undef, undef, undef, undef, undef, undef, undef, undef, undef, undef, undef, undef, undef, undef, undef, undef, undef, undef, undef, undef, undef, undef, undef, undef], []⟩) (by kernel_rfl) ?_
    refine wpList_nil ?_
    refine hK29 _ _ ?_
    refine wp_ret ?_
    refine hret _ _ ?_
    refine ends (v := Value.tuple #[.agg #[.int .i64 0, .int .i64 0, .int .i64 0], .int .i64 4]) (results2 (q1 := .cell 4 23) (q2 := .tmp 5) (by kernel_rfl) (resN (n := 3) (cs := [.int .i64 0, .int .i64 0, .int .i64 0]) (by kernel_rfl : _ = Value.pointer (some ⟨b13, 0, none⟩)) Try.underlying23 rfl (by kernel_rfl) rfl (HS31.cells 0 3 _ rfl)) (resT (by kernel_rfl : _ = Value.int .i64 4))) (by kernel_rfl) ?_
    have HS88 := HS31.drop
    have HS89 := HS88.drop
    have HS90 := HS89.drop
    injection h with h
    injection h with h0_ h
    subst h0_ h
    exact ⟨f23, rfl, L24, HS90⟩
  · have c27 : ¬ (¬ (vt21 = true)) := c27
    refine seqRwI 10 (x := (!vt21)) (v := false) (by kernel_rfl) (congrArg (fun b_ => !b_) (show vt21 = true from (Decidable.of_not_not c27)) : (!vt21) = false) ?_
    refine seqRwI 11 (x := (!vt21)) (v := false) (by kernel_rfl) (congrArg (fun b_ => !b_) (show vt21 = true from (Decidable.of_not_not c27)) : (!vt21) = false) ?_
    refine seqG (by kernel_rfl) (does_run (run_loadN (n := 3) rfl Try.underlying23 rfl (by kernel_rfl) (by kernel_rfl : _ = Value.pointer (some ⟨b9, 0, none⟩)) (cs := [.int .i64 here2.X, .int .i64 here2.Y, .int .i64 here2.Z]) rfl (HS26.u1.cells 0 3 _ rfl)) ?_)
    have hq_ := bind_some h; clear h; obtain ⟨vt32, hc33, h⟩ := hq_
    refine seqG (by kernel_rfl) (does_call (f := 26) (args := #[.agg #[.int .i64 here2.X, .int .i64 here2.Y, .int .i64 here2.Z], .int .i64 4194304]) (by kernel_rfl) (sky_within.calls k here2 4194304 HS26 vt32 hc33) ?_)
    rintro _ W36 ⟨f34, rfl, L35, HS37⟩
    refine ⟨_, rfl, ?_⟩
    refine seqS2 (a' := ⟨#[.agg #[.int .i64 was1.X, .int .i64 was1.Y, .int .i64 was1.Z], .agg #[.int .i64 here2.X, .int .i64 here2.Y, .int .i64 here2.Z], .pointer (some ⟨b5, 0, none⟩), .pointer (some ⟨b9, 0, none⟩), .pointer (some ⟨b13, 0, none⟩), .int .i64 0, undef, undef, .agg #[.int .i64 was1.X, .int .i64 was1.Y, .int .i64 was1.Z], .bool vt21, .bool false, .bool false, .agg #[.int .i64 here2.X, .int .i64 here2.Y, .int .i64 here2.Z], .bool vt32, .bool (!vt32), .bool (!vt32), undef, undef, undef, undef, undef, undef, undef, undef, undef, undef, undef, undef, undef, undef, undef, undef, undef, undef, undef, undef, undef, undef, undef, undef, undef, undef, undef, undef, undef, undef, undef, undef, undef, undef, undef, undef], []⟩) (by kernel_rfl) ?_
    refine wpList_nil ?_
    refine hK20 _ _ ?_
    have hq_ := ite_some h; clear h; rcases hq_ with ⟨c39, h⟩ | ⟨c39, h⟩
    · have c39 : ¬ (vt32 = true) := c39
      refine wpRwI 14 (x := (!vt32)) (v := true) (by kernel_rfl) (congrArg (fun b_ => !b_) (show vt32 = false from (Bool.eq_false_iff.mpr c39)) : (!vt32) = true) ?_
      refine wpRwI 15 (x := (!vt32)) (v := true) (by kernel_rfl) (congrArg (fun b_ => !b_) (show vt32 = false from (Bool.eq_false_iff.mpr c39)) : (!vt32) = true) ?_
      refine condT (by kernel_rfl) ?_
      refine wp_seq_k (fun K40 hK41 => ?_)
      refine wp_region_lit ?_
      refine seqL1 (by kernel_rfl) ?_
      refine seqK rfl (does_store (n := 3) (vs := [.int .i64 0, .int .i64 0, .int .i64 0]) (cs' := #[.int .i64 0, .int .i64 0, .int .i64 0]) rfl (by kernel_rfl) (by kernel_rfl : _ = Value.pointer (some ⟨b13, 0, none⟩)) (by kernel_rfl : _ = Value.agg #[.int .i64 0, .int .i64 0, .int .i64 0]) rfl rfl (by intro u_ hu_; simp only [List.mem_cons, List.not_mem_nil, or_false] at hu_; rcases hu_ with rfl | rfl | rfl <;> rfl) HS37 (Nat.le_of_ble_eq_true rfl) (by kernel_rfl) ?_)
      intro W42 HS43
      refine seqS1 (a' := ⟨#[.agg #[.int .i64 was1.X, .int .i64 was1.Y, .int .i64 was1.Z], .agg #[.int .i64 here2.X, .int .i64 here2.Y, .int .i64 here2.Z], .pointer (some ⟨b5, 0, none⟩), .pointer (some ⟨b9, 0, none⟩), .pointer (some ⟨b13, 0, none⟩), .int .i64 4, undef, undef, .agg #[.int .i64 was1.X, .int .i64 was1.Y, .int .i64 was1.Z], .bool vt21, .bool false, .bool false, .agg #[.int .i64 here2.X, .int .i64 here2.Y, .int .i64 here2.Z], .bool vt32, .bool true, .bool true, .agg #[.int .i64 0, .int .i64 0, .int .i64 0], undef, undef, undef, undef, undef, undef, undef, undef, undef, undef, undef, undef, undef, undef, undef, undef, undef, undef, undef, undef, undef, undef, undef, undef, undef, undef, undef, undef, undef, undef, undef, undef, undef, undef, undef], []⟩) (by kernel_rfl) ?_
      refine wpList_nil ?_
      refine hK41 _ _ ?_
      refine wp_ret ?_
      refine hret _ _ ?_
      refine ends (v := Value.tuple #[.agg #[.int .i64 0, .int .i64 0, .int .i64 0], .int .i64 4]) (results2 (q1 := .cell 4 23) (q2 := .tmp 5) (by kernel_rfl) (resN (n := 3) (cs := [.int .i64 0, .int .i64 0, .int .i64 0]) (by kernel_rfl : _ = Value.pointer (some ⟨b13, 0, none⟩)) Try.underlying23 rfl (by kernel_rfl) rfl (HS43.cells 0 3 _ rfl)) (resT (by kernel_rfl : _ = Value.int .i64 4))) (by kernel_rfl) ?_
      have HS91 := HS43.drop
      have HS92 := HS91.drop
      have HS93 := HS92.drop
      injection h with h
      injection h with h0_ h
      subst h0_ h
      exact ⟨f34, rfl, (L24.trans L35), HS93⟩
    · have c39 : ¬ (¬ (vt32 = true)) := c39
      refine wpRwI 14 (x := (!vt32)) (v := false) (by kernel_rfl) (congrArg (fun b_ => !b_) (show vt32 = true from (Decidable.of_not_not c39)) : (!vt32) = false) ?_
      refine wpRwI 15 (x := (!vt32)) (v := false) (by kernel_rfl) (congrArg (fun b_ => !b_) (show vt32 = true from (Decidable.of_not_not c39)) : (!vt32) = false) ?_
      refine condF (by kernel_rfl) ?_
      refine wp_skip ?_
      refine hK18 _ _ ?_
      refine wp_seq_k (fun K44 hK45 => ?_)
      refine wp_region_lit ?_
      refine seqK rfl (does_run (run_loadN (n := 3) rfl Try.underlying23 rfl (by kernel_rfl) (by kernel_rfl : _ = Value.pointer (some ⟨b9, 0, none⟩)) (cs := [.int .i64 here2.X, .int .i64 here2.Y, .int .i64 here2.Z]) rfl (HS37.u1.cells 0 3 _ rfl)) ?_)
      have hq_ := bind_some h; clear h; obtain ⟨vt46, hc47, h⟩ := hq_
      refine seqK rfl (does_call (f := 10) (args := #[.agg #[.int .i64 here2.X, .int .i64 here2.Y, .int .i64 here2.Z]]) (by kernel_rfl) (sky_Pull.calls k here2 HS37 vt46 hc47) ?_)
      rintro _ W50 ⟨f48, rfl, L49, HS51⟩
      refine ⟨_, rfl, ?_⟩
      refine seqK rfl (does_alloc (z := Value.agg #[.int .i64 0, .int .i64 0, .int .i64 0]) (cs := #[.int .i64 0, .int .i64 0, .int .i64 0]) rfl (by kernel_rfl) rfl HS51 ?_)
      intro b52 W53 HS54
      refine seqK rfl (does_store (n := 3) (vs := [.int .i64 vt46.X, .int .i64 vt46.Y, .int .i64 vt46.Z]) (cs' := #[.int .i64 vt46.X, .int .i64 vt46.Y, .int .i64 vt46.Z]) rfl (by kernel_rfl) (by kernel_rfl : _ = Value.pointer (some ⟨b52, 0, none⟩)) (by kernel_rfl : _ = Value.agg #[.int .i64 vt46.X, .int .i64 vt46.Y, .int .i64 vt46.Z]) rfl rfl (by intro u_ hu_; simp only [List.mem_cons, List.not_mem_nil, or_false] at hu_; rcases hu_ with rfl | rfl | rfl <;> rfl) HS54 (Nat.le_of_ble_eq_true rfl) (by kernel_rfl) ?_)
      intro W56 HS57
      refine wpList_nil ?_
      refine hK45 _ _ ?_
      refine wp_seq_k (fun K58 hK59 => ?_)
      refine wp_region_lit ?_
      refine seqL1 (by kernel_rfl) ?_
      refine seqK rfl (does_run (run_load rfl Try.underlying2 rfl (by kernel_rfl : _ = Value.pointer (some ⟨b9, 0, none⟩)) (HS57.u2.cell 0)) ?_)
      refine seqL2 (by kernel_rfl) ?_
      refine seqK rfl (does_run (run_load rfl Try.underlying2 rfl (by kernel_rfl : _ = Value.pointer (some ⟨b5, 0, none⟩)) (HS57.u3.cell 0)) ?_)
      refine seqL2 (by kernel_rfl) ?_
      refine seqK rfl (does_run (run_load rfl Try.underlying2 rfl (by kernel_rfl : _ = Value.pointer (some ⟨b52, 0, none⟩)) (HS57.cell 0)) ?_)
      refine seqL2 (by kernel_rfl) ?_
      refine seqK rfl (does_run (run_load rfl Try.underlying2 rfl (by kernel_rfl : _ = Value.pointer (some ⟨b9, 1, none⟩)) (HS57.u2.cell 1)) ?_)
      refine seqL2 (by kernel_rfl) ?_
      refine seqK rfl (does_run (run_load rfl Try.underlying2 rfl (by kernel_rfl : _ = Value.pointer (some ⟨b5, 1, none⟩)) (HS57.u3.cell 1)) ?_)
      refine seqL2 (by kernel_rfl) ?_
      refine seqK rfl (does_run (run_load rfl Try.underlying2 rfl (by kernel_rfl : _ = Value.pointer (some ⟨b52, 1, none⟩)) (HS57.cell 1)) ?_)
      refine seqL2 (by kernel_rfl) ?_
      refine seqK rfl (does_run (run_load rfl Try.underlying2 rfl (by kernel_rfl : _ = Value.pointer (some ⟨b9, 2, none⟩)) (HS57.u2.cell 2)) ?_)
      refine seqL2 (by kernel_rfl) ?_
      refine seqK rfl (does_run (run_load rfl Try.underlying2 rfl (by kernel_rfl : _ = Value.pointer (some ⟨b5, 2, none⟩)) (HS57.u3.cell 2)) ?_)
      refine seqL2 (by kernel_rfl) ?_
      refine seqK rfl (does_run (run_load rfl Try.underlying2 rfl (by kernel_rfl : _ = Value.pointer (some ⟨b52, 2, none⟩)) (HS57.cell 2)) ?_)
      refine seqL2 (by kernel_rfl) ?_
      refine seqK rfl (does_alloc (z := Value.agg #[.int .i64 0, .int .i64 0, .int .i64 0]) (cs := #[.int .i64 0, .int .i64 0, .int .i64 0]) rfl (by kernel_rfl) rfl HS57 ?_)
      intro b60 W61 HS62
      refine seqK rfl (does_store (n := 3) (vs := [.int .i64 (w64 ((w64 ((w64 (2 * here2.X)) - was1.X)) + vt46.X)), .int .i64 (w64 ((w64 ((w64 (2 * here2.Y)) - was1.Y)) + vt46.Y)), .int .i64 (w64 ((w64 ((w64 (2 * here2.Z)) - was1.Z)) + vt46.Z))]) (cs' := #[.int .i64 (w64 ((w64 ((w64 (2 * here2.X)) - was1.X)) + vt46.X)), .int .i64 (w64 ((w64 ((w64 (2 * here2.Y)) - was1.Y)) + vt46.Y)), .int .i64 (w64 ((w64 ((w64 (2 * here2.Z)) - was1.Z)) + vt46.Z))]) rfl (by kernel_rfl) (by kernel_rfl : _ = Value.pointer (some ⟨b60, 0, none⟩)) (by kernel_rfl : _ = Value.agg #[.int .i64 (w64 ((w64 ((w64 (2 * here2.X)) - was1.X)) + vt46.X)), .int .i64 (w64 ((w64 ((w64 (2 * here2.Y)) - was1.Y)) + vt46.Y)), .int .i64 (w64 ((w64 ((w64 (2 * here2.Z)) - was1.Z)) + vt46.Z))]) rfl rfl (by intro u_ hu_; simp only [List.mem_cons, List.not_mem_nil, or_false] at hu_; rcases hu_ with rfl | rfl | rfl <;> rfl) HS62 (Nat.le_of_ble_eq_true rfl) (by kernel_rfl) ?_)
      intro W64 HS65
      refine wpList_nil ?_
      refine hK59 _ _ ?_
      refine wp_seq_k (fun K66 hK67 => ?_)
      refine wp_seq_k (fun K68 hK69 => ?_)
      refine wp_region_lit ?_
      refine seqK rfl (does_run (run_loadN (n := 3) rfl Try.underlying23 rfl (by kernel_rfl) (by kernel_rfl : _ = Value.pointer (some ⟨b60, 0, none⟩)) (cs := [.int .i64 (w64 ((w64 ((w64 (2 * here2.X)) - was1.X)) + vt46.X)), .int .i64 (w64 ((w64 ((w64 (2 * here2.Y)) - was1.Y)) + vt46.Y)), .int .i64 (w64 ((w64 ((w64 (2 * here2.Z)) - was1.Z)) + vt46.Z))]) rfl (HS65.cells 0 3 _ rfl)) ?_)
      have hq_ := bind_some h; clear h; obtain ⟨vt70, hc71, h⟩ := hq_
      refine seqK rfl (does_call (f := 26) (args := #[.agg #[.int .i64 (w64 ((w64 ((w64 (2 * here2.X)) - was1.X)) + vt46.X)), .int .i64 (w64 ((w64 ((w64 (2 * here2.Y)) - was1.Y)) + vt46.Y)), .int .i64 (w64 ((w64 ((w64 (2 * here2.Z)) - was1.Z)) + vt46.Z))], .int .i64 4194304]) (by kernel_rfl) (sky_within.calls k (⟨w64 ((w64 ((w64 (2 * here2.X)) - was1.X)) + vt46.X), w64 ((w64 ((w64 (2 * here2.Y)) - was1.Y)) + vt46.Y), w64 ((w64 ((w64 (2 * here2.Z)) - was1.Z)) + vt46.Z)⟩ : S_Vec) 4194304 HS65 vt70 hc71) ?_)
      rintro _ W74 ⟨f72, rfl, L73, HS75⟩
      refine ⟨_, rfl, ?_⟩
      refine seqS1 (a' := ⟨#[.agg #[.int .i64 was1.X, .int .i64 was1.Y, .int .i64 was1.Z], .agg #[.int .i64 here2.X, .int .i64 here2.Y, .int .i64 here2.Z], .pointer (some ⟨b5, 0, none⟩), .pointer (some ⟨b9, 0, none⟩), .pointer (some ⟨b13, 0, none⟩), .int .i64 0, .pointer (some ⟨b52, 0, none⟩), .pointer (some ⟨b60, 0, none⟩), .agg #[.int .i64 was1.X, .int .i64 was1.Y, .int .i64 was1.Z], .bool vt21, .bool false, .bool false, .agg #[.int .i64 here2.X, .int .i64 here2.Y, .int .i64 here2.Z], .bool vt32, .bool false, .bool false, undef, .agg #[.int .i64 here2.X, .int .i64 here2.Y, .int .i64 here2.Z], .agg #[.int .i64 vt46.X, .int .i64 vt46.Y, .int .i64 vt46.Z], .pointer (some ⟨b9, 0, none⟩), .int .i64 here2.X, .int .i64 (w64 (2 * here2.X)), .pointer (some ⟨b5, 0, none⟩), .int .i64 was1.X, .int .i64 (w64 ((w64 (2 * here2.X)) - was1.X)), .pointer (some ⟨b52, 0, none⟩), .int .i64 vt46.X, .int .i64 (w64 ((w64 ((w64 (2 * here2.X)) - was1.X)) + vt46.X)), .pointer (some ⟨b9, 1, none⟩), .int .i64 here2.Y, .int .i64 (w64 (2 * here2.Y)), .pointer (some ⟨b5, 1, none⟩), .int .i64 was1.Y, .int .i64 (w64 ((w64 (2 * here2.Y)) - was1.Y)), .pointer (some ⟨b52, 1, none⟩), .int .i64 vt46.Y, .int .i64 (w64 ((w64 ((w64 (2 * here2.Y)) - was1.Y)) + vt46.Y)), .pointer (some ⟨b9, 2, none⟩), .int .i64 here2.Z, .int .i64 (w64 (2 * here2.Z)), .pointer (some ⟨b5, 2, none⟩), .int .i64 was1.Z, .int .i64 (w64 ((w64 (2 * here2.Z)) - was1.Z)), .pointer (some ⟨b52, 2, none⟩), .int .i64 vt46.Z, .int .i64 (w64 ((w64 ((w64 (2 * here2.Z)) - was1.Z)) + vt46.Z)), .agg #[.int .i64 (w64 ((w64 ((w64 (2 * here2.X)) - was1.X)) + vt46.X)), .int .i64 (w64 ((w64 ((w64 (2 * here2.Y)) - was1.Y)) + vt46.Y)), .int .i64 (w64 ((w64 ((w64 (2 * here2.Z)) - was1.Z)) + vt46.Z))], .agg #[.int .i64 (w64 ((w64 ((w64 (2 * here2.X)) - was1.X)) + vt46.X)), .int .i64 (w64 ((w64 ((w64 (2 * here2.Y)) - was1.Y)) + vt46.Y)), .int .i64 (w64 ((w64 ((w64 (2 * here2.Z)) - was1.Z)) + vt46.Z))], .bool vt70, .bool (!vt70), undef, undef], []⟩) (by kernel_rfl) ?_
      refine wpList_nil ?_
      refine hK69 _ _ ?_
      have hq_ := ite_some h; clear h; rcases hq_ with ⟨c77, h⟩ | ⟨c77, h⟩
      · have c77 : ¬ (vt70 = true) := c77
        refine wpRwI 49 (x := (!vt70)) (v := true) (by kernel_rfl) (congrArg (fun b_ => !b_) (show vt70 = false from (Bool.eq_false_iff.mpr c77)) : (!vt70) = true) ?_
        refine condT (by kernel_rfl) ?_
        refine wp_seq_k (fun K78 hK79 => ?_)
        refine wp_region_lit ?_
        have HS80 := HS75.u2
        refine seqL1 (by kernel_rfl) ?_
        refine seqK rfl (does_store (n := 3) (vs := [.int .i64 0, .int .i64 0, .int .i64 0]) (cs' := #[.int .i64 0, .int .i64 0, .int .i64 0]) rfl (by kernel_rfl) (by kernel_rfl : _ = Value.pointer (some ⟨b13, 0, none⟩)) (by kernel_rfl : _ = Value.agg #[.int .i64 0, .int .i64 0, .int .i64 0]) rfl rfl (by intro u_ hu_; simp only [List.mem_cons, List.not_mem_nil, or_false] at hu_; rcases hu_ with rfl | rfl | rfl <;> rfl) HS80 (Nat.le_of_ble_eq_true rfl) (by kernel_rfl) ?_)
        intro W81 HS82
        refine seqS1 (a' := ⟨#[.agg #[.int .i64 was1.X, .int .i64 was1.Y, .int .i64 was1.Z], .agg #[.int .i64 here2.X, .int .i64 here2.Y, .int .i64 here2.Z], .pointer (some ⟨b5, 0, none⟩), .pointer (some ⟨b9, 0, none⟩), .pointer (some ⟨b13, 0, none⟩), .int .i64 18, .pointer (some ⟨b52, 0, none⟩), .pointer (some ⟨b60, 0, none⟩), .agg #[.int .i64 was1.X, .int .i64 was1.Y, .int .i64 was1.Z], .bool vt21, .bool false, .bool false, .agg #[.int .i64 here2.X, .int .i64 here2.Y, .int .i64 here2.Z], .bool vt32, .bool false, .bool false, undef, .agg #[.int .i64 here2.X, .int .i64 here2.Y, .int .i64 here2.Z], .agg #[.int .i64 vt46.X, .int .i64 vt46.Y, .int .i64 vt46.Z], .pointer (some ⟨b9, 0, none⟩), .int .i64 here2.X, .int .i64 (w64 (2 * here2.X)), .pointer (some ⟨b5, 0, none⟩), .int .i64 was1.X, .int .i64 (w64 ((w64 (2 * here2.X)) - was1.X)), .pointer (some ⟨b52, 0, none⟩), .int .i64 vt46.X, .int .i64 (w64 ((w64 ((w64 (2 * here2.X)) - was1.X)) + vt46.X)), .pointer (some ⟨b9, 1, none⟩), .int .i64 here2.Y, .int .i64 (w64 (2 * here2.Y)), .pointer (some ⟨b5, 1, none⟩), .int .i64 was1.Y, .int .i64 (w64 ((w64 (2 * here2.Y)) - was1.Y)), .pointer (some ⟨b52, 1, none⟩), .int .i64 vt46.Y, .int .i64 (w64 ((w64 ((w64 (2 * here2.Y)) - was1.Y)) + vt46.Y)), .pointer (some ⟨b9, 2, none⟩), .int .i64 here2.Z, .int .i64 (w64 (2 * here2.Z)), .pointer (some ⟨b5, 2, none⟩), .int .i64 was1.Z, .int .i64 (w64 ((w64 (2 * here2.Z)) - was1.Z)), .pointer (some ⟨b52, 2, none⟩), .int .i64 vt46.Z, .int .i64 (w64 ((w64 ((w64 (2 * here2.Z)) - was1.Z)) + vt46.Z)), .agg #[.int .i64 (w64 ((w64 ((w64 (2 * here2.X)) - was1.X)) + vt46.X)), .int .i64 (w64 ((w64 ((w64 (2 * here2.Y)) - was1.Y)) + vt46.Y)), .int .i64 (w64 ((w64 ((w64 (2 * here2.Z)) - was1.Z)) + vt46.Z))], .agg #[.int .i64 (w64 ((w64 ((w64 (2 * here2.X)) - was1.X)) + vt46.X)), .int .i64 (w64 ((w64 ((w64 (2 * here2.Y)) - was1.Y)) + vt46.Y)), .int .i64 (w64 ((w64 ((w64 (2 * here2.Z)) - was1.Z)) + vt46.Z))], .bool vt70, .bool true, .agg #[.int .i64 0, .int .i64 0, .int .i64 0], undef], []⟩) (by kernel_rfl) ?_
        refine wpList_nil ?_
        refine hK79 _ _ ?_
        refine wp_ret ?_
        refine hret _ _ ?_
        refine ends (v := Value.tuple #[.agg #[.int .i64 0, .int .i64 0, .int .i64 0], .int .i64 18]) (results2 (q1 := .cell 4 23) (q2 := .tmp 5) (by kernel_rfl) (resN (n := 3) (cs := [.int .i64 0, .int .i64 0, .int .i64 0]) (by kernel_rfl : _ = Value.pointer (some ⟨b13, 0, none⟩)) Try.underlying23 rfl (by kernel_rfl) rfl (HS82.cells 0 3 _ rfl)) (resT (by kernel_rfl : _ = Value.int .i64 18))) (by kernel_rfl) ?_
        have HS94 := HS82.drop
        have HS95 := HS94.drop
        have HS96 := HS95.drop
        have HS97 := HS96.drop
        have HS98 := HS97.drop
        injection h with h
        injection h with h0_ h
        subst h0_ h
        exact ⟨f72, rfl, (L24.trans (L35.trans (L49.trans L73))), HS98⟩
      · have c77 : ¬ (¬ (vt70 = true)) := c77
        refine wpRwI 49 (x := (!vt70)) (v := false) (by kernel_rfl) (congrArg (fun b_ => !b_) (show vt70 = true from (Decidable.of_not_not c77)) : (!vt70) = false) ?_
        refine condF (by kernel_rfl) ?_
        refine wp_skip ?_
        refine hK67 _ _ ?_
        refine wp_seq_k (fun K83 hK84 => ?_)
        refine wp_region_lit ?_
        refine seqK rfl (does_run (run_loadN (n := 3) rfl Try.underlying23 rfl (by kernel_rfl) (by kernel_rfl : _ = Value.pointer (some ⟨b60, 0, none⟩)) (cs := [.int .i64 (w64 ((w64 ((w64 (2 * here2.X)) - was1.X)) + vt46.X)), .int .i64 (w64 ((w64 ((w64 (2 * here2.Y)) - was1.Y)) + vt46.Y)), .int .i64 (w64 ((w64 ((w64 (2 * here2.Z)) - was1.Z)) + vt46.Z))]) rfl (HS75.cells 0 3 _ rfl)) ?_)
        have HS85 := HS75.u2
        refine seqK rfl (does_store (n := 3) (vs := [.int .i64 (w64 ((w64 ((w64 (2 * here2.X)) - was1.X)) + vt46.X)), .int .i64 (w64 ((w64 ((w64 (2 * here2.Y)) - was1.Y)) + vt46.Y)), .int .i64 (w64 ((w64 ((w64 (2 * here2.Z)) - was1.Z)) + vt46.Z))]) (cs' := #[.int .i64 (w64 ((w64 ((w64 (2 * here2.X)) - was1.X)) + vt46.X)), .int .i64 (w64 ((w64 ((w64 (2 * here2.Y)) - was1.Y)) + vt46.Y)), .int .i64 (w64 ((w64 ((w64 (2 * here2.Z)) - was1.Z)) + vt46.Z))]) rfl (by kernel_rfl) (by kernel_rfl : _ = Value.pointer (some ⟨b13, 0, none⟩)) (by kernel_rfl : _ = Value.agg #[.int .i64 (w64 ((w64 ((w64 (2 * here2.X)) - was1.X)) + vt46.X)), .int .i64 (w64 ((w64 ((w64 (2 * here2.Y)) - was1.Y)) + vt46.Y)), .int .i64 (w64 ((w64 ((w64 (2 * here2.Z)) - was1.Z)) + vt46.Z))]) rfl rfl (by intro u_ hu_; simp only [List.mem_cons, List.not_mem_nil, or_false] at hu_; rcases hu_ with rfl | rfl | rfl <;> rfl) HS85 (Nat.le_of_ble_eq_true rfl) (by kernel_rfl) ?_)
        intro W86 HS87
        refine seqS1 (a' := ⟨#[.agg #[.int .i64 was1.X, .int .i64 was1.Y, .int .i64 was1.Z], .agg #[.int .i64 here2.X, .int .i64 here2.Y, .int .i64 here2.Z], .pointer (some ⟨b5, 0, none⟩), .pointer (some ⟨b9, 0, none⟩), .pointer (some ⟨b13, 0, none⟩), .int .i64 0, .pointer (some ⟨b52, 0, none⟩), .pointer (some ⟨b60, 0, none⟩), .agg #[.int .i64 was1.X, .int .i64 was1.Y, .int .i64 was1.Z], .bool vt21, .bool false, .bool false, .agg #[.int .i64 here2.X, .int .i64 here2.Y, .int .i64 here2.Z], .bool vt32, .bool false, .bool false, undef, .agg #[.int .i64 here2.X, .int .i64 here2.Y, .int .i64 here2.Z], .agg #[.int .i64 vt46.X, .int .i64 vt46.Y, .int .i64 vt46.Z], .pointer (some ⟨b9, 0, none⟩), .int .i64 here2.X, .int .i64 (w64 (2 * here2.X)), .pointer (some ⟨b5, 0, none⟩), .int .i64 was1.X, .int .i64 (w64 ((w64 (2 * here2.X)) - was1.X)), .pointer (some ⟨b52, 0, none⟩), .int .i64 vt46.X, .int .i64 (w64 ((w64 ((w64 (2 * here2.X)) - was1.X)) + vt46.X)), .pointer (some ⟨b9, 1, none⟩), .int .i64 here2.Y, .int .i64 (w64 (2 * here2.Y)), .pointer (some ⟨b5, 1, none⟩), .int .i64 was1.Y, .int .i64 (w64 ((w64 (2 * here2.Y)) - was1.Y)), .pointer (some ⟨b52, 1, none⟩), .int .i64 vt46.Y, .int .i64 (w64 ((w64 ((w64 (2 * here2.Y)) - was1.Y)) + vt46.Y)), .pointer (some ⟨b9, 2, none⟩), .int .i64 here2.Z, .int .i64 (w64 (2 * here2.Z)), .pointer (some ⟨b5, 2, none⟩), .int .i64 was1.Z, .int .i64 (w64 ((w64 (2 * here2.Z)) - was1.Z)), .pointer (some ⟨b52, 2, none⟩), .int .i64 vt46.Z, .int .i64 (w64 ((w64 ((w64 (2 * here2.Z)) - was1.Z)) + vt46.Z)), .agg #[.int .i64 (w64 ((w64 ((w64 (2 * here2.X)) - was1.X)) + vt46.X)), .int .i64 (w64 ((w64 ((w64 (2 * here2.Y)) - was1.Y)) + vt46.Y)), .int .i64 (w64 ((w64 ((w64 (2 * here2.Z)) - was1.Z)) + vt46.Z))], .agg #[.int .i64 (w64 ((w64 ((w64 (2 * here2.X)) - was1.X)) + vt46.X)), .int .i64 (w64 ((w64 ((w64 (2 * here2.Y)) - was1.Y)) + vt46.Y)), .int .i64 (w64 ((w64 ((w64 (2 * here2.Z)) - was1.Z)) + vt46.Z))], .bool vt70, .bool false, undef, .agg #[.int .i64 (w64 ((w64 ((w64 (2 * here2.X)) - was1.X)) + vt46.X)), .int .i64 (w64 ((w64 ((w64 (2 * here2.Y)) - was1.Y)) + vt46.Y)), .int .i64 (w64 ((w64 ((w64 (2 * here2.Z)) - was1.Z)) + vt46.Z))]], []⟩) (by kernel_rfl) ?_
        refine wpList_nil ?_
        refine hK84 _ _ ?_
        refine wp_ret ?_
        refine hret _ _ ?_
        refine ends (v := Value.tuple #[.agg #[.int .i64 (w64 ((w64 ((w64 (2 * here2.X)) - was1.X)) + vt46.X)), .int .i64 (w64 ((w64 ((w64 (2 * here2.Y)) - was1.Y)) + vt46.Y)), .int .i64 (w64 ((w64 ((w64 (2 * here2.Z)) - was1.Z)) + vt46.Z))], .int .i64 0]) (results2 (q1 := .cell 4 23) (q2 := .tmp 5) (by kernel_rfl) (resN (n := 3) (cs := [.int .i64 (w64 ((w64 ((w64 (2 * here2.X)) - was1.X)) + vt46.X)), .int .i64 (w64 ((w64 ((w64 (2 * here2.Y)) - was1.Y)) + vt46.Y)), .int .i64 (w64 ((w64 ((w64 (2 * here2.Z)) - was1.Z)) + vt46.Z))]) (by kernel_rfl : _ = Value.pointer (some ⟨b13, 0, none⟩)) Try.underlying23 rfl (by kernel_rfl) rfl (HS87.cells 0 3 _ rfl)) (resT (by kernel_rfl : _ = Value.int .i64 0))) (by kernel_rfl) ?_
        have HS99 := HS87.drop
        have HS100 := HS99.drop
        have HS101 := HS100.drop
        have HS102 := HS101.drop
        have HS103 := HS102.drop
        injection h with h
        injection h with h0_ h
        subst h0_ h
        exact ⟨f72, rfl, (L24.trans (L35.trans (L49.trans L73))), HS103⟩

set_option maxRecDepth 100000 in
set_option maxHeartbeats 4000000 in
theorem sky_Path.calls (k : Nat)  (b1 : S_Body) (day2 : Int) {t w : World} {f : FM} {H : List Seg} (HS : St t w f (H)) (r1 : S_Vec) (r2 : S_Vec) (r3 : Int) (h : sky_Path k b1 day2 = some (r1, r2, r3)) :
    Calls Try.prog 16 #[.agg #[.int .i64 b1.ID, .int .i64 b1.Was.X, .int .i64 b1.Was.Y, .int .i64 b1.Was.Z, .int .i64 b1.Here.X, .int .i64 b1.Here.Y, .int .i64 b1.Here.Z, .int .i64 b1.Rate], .int .i64 day2] w (fun e w' => ∃ (g : FM), e = .returned (Value.tuple #[.agg #[.int .i64 r1.X, .int .i64 r1.Y, .int .i64 r1.Z], .agg #[.int .i64 r2.X, .int .i64 r2.Y, .int .i64 r2.Z], .int .i64 r3]) ∧ FM.le f g ∧ St t w' g (H)) := by
  unfold sky_Path at h
  refine enter Try.func16 rfl (tm := #[.agg #[.int .i64 b1.ID, .int .i64 b1.Was.X, .int .i64 b1.Was.Y, .int .i64 b1.Was.Z, .int .i64 b1.Here.X, .int .i64 b1.Here.Y, .int .i64 b1.Here.Z, .int .i64 b1.Rate], .int .i64 day2, undef, undef, undef, undef, undef, undef, undef, undef, undef, undef, undef, undef, undef, undef, undef, undef, undef, undef, undef, undef, undef, undef, undef, undef, undef, undef, undef, undef, undef, undef, undef, undef, undef, undef, undef, undef, undef, undef, undef, undef, undef, undef, undef, undef, undef, undef, undef, undef, undef, undef, undef, undef, undef, undef, undef, undef, undef, undef, undef, undef, undef, undef, undef, undef, undef, undef, undef, undef, undef, undef, undef]) (by kernel_rfl) ?_
  intro B hret hnor hnp
  refine wp_seq_k (fun K3 hK4 => ?_)
  refine wp_region_lit ?_
  refine seqK rfl (does_box (cs := #[.int .i64 b1.ID, .int .i64 b1.Was.X, .int .i64 b1.Was.Y, .int .i64 b1.Was.Z, .int .i64 b1.Here.X, .int .i64 b1.Here.Y, .int .i64 b1.Here.Z, .int .i64 b1.Rate]) rfl (by kernel_rfl : _ = Value.agg #[.int .i64 b1.ID, .int .i64 b1.Was.X, .int .i64 b1.Was.Y, .int .i64 b1.Was.Z, .int .i64 b1.Here.X, .int .i64 b1.Here.Y, .int .i64 b1.Here.Z, .int .i64 b1.Rate]) rfl HS ?_)
  intro b5 W6 HS7
  refine seqK rfl (does_alloc (z := Value.agg #[.int .i64 0, .int .i64 0, .int .i64 0]) (cs := #[.int .i64 0, .int .i64 0, .int .i64 0]) rfl (by kernel_rfl) rfl HS7 ?_)
  intro b9 W10 HS11
  refine seqK rfl (does_alloc (z := Value.agg #[.int .i64 0, .int .i64 0, .int .i64 0]) (cs := #[.int .i64 0, .int .i64 0, .int .i64 0]) rfl (by kernel_rfl) rfl HS11 ?_)
  intro b13 W14 HS15
  refine seqS1 (a' := ⟨#[.agg #[.int .i64 b1.ID, .int .i64 b1.Was.X, .int .i64 b1.Was.Y, .int .i64 b1.Was.Z, .int .i64 b1.Here.X, .int .i64 b1.Here.Y, .int .i64 b1.Here.Z, .int .i64 b1.Rate], .int .i64 day2, .pointer (some ⟨b5, 0, none⟩), undef, .pointer (some ⟨b9, 0, none⟩), .pointer (some ⟨b13, 0, none⟩), .int .i64 0, undef, undef, undef, undef, undef, undef, undef, undef, undef, undef, undef, undef, undef, undef, undef, undef, undef, undef, undef, undef, undef, undef, undef, undef, undef, undef, undef, undef, undef, undef, undef, undef, undef, undef, undef, undef, undef, undef, undef, undef, undef, undef, undef, undef, undef, undef, undef, undef, undef, undef, undef, undef, undef, undef, undef, undef, undef, undef, undef, undef, undef, undef, undef, undef, undef, undef], []⟩) (by kernel_rfl) ?_
  refine wpList_nil ?_
  refine hK4 _ _ ?_
  refine wp_seq_k (fun K17 hK18 => ?_)
  refine wp_seq_k (fun K19 hK20 => ?_)
  refine wp_region_lit ?_
  refine seqS3 (a' := ⟨#[.agg #[.int .i64 b1.ID, .int .i64 b1.Was.X, .int .i64 b1.Was.Y, .int .i64 b1.Was.Z, .int .i64 b1.Here.X, .int .i64 b1.Here.Y, .int .i64 b1.Here.Z, .int .i64 b1.Rate], .int .i64 day2, .pointer (some ⟨b5, 0, none⟩), undef, .pointer (some ⟨b9, 0, none⟩), .pointer (some ⟨b13, 0, none⟩), .int .i64 0, undef, undef, undef, undef, undef, undef, .int .i64 day2, .bool (decide (day2 < (-400))), .bool (decide (day2 < (-400))), undef, undef, undef, undef, undef, undef, undef, undef, undef, undef, undef, undef, undef, undef, undef, undef, undef, undef, undef, undef, undef, undef, undef, undef, undef, undef, undef, undef, undef, undef, undef, undef, undef, undef, undef, undef, undef, undef, undef, undef, undef, undef, undef, undef, undef, undef, undef, undef, undef, undef, undef, undef, undef, undef, undef, undef, undef], []⟩) (by kernel_rfl) ?_
  have hq_ := ite_some h; clear h; rcases hq_ with ⟨c21, h⟩ | ⟨c21, h⟩
  · have c21 : day2 < (-400) := c21
    refine seqRwI 14 (x := (decide (day2 < (-400)))) (v := true) (by kernel_rfl) (decide_eq_true c21) ?_
    refine seqRwI 15 (x := (decide (day2 < (-400)))) (v := true) (by kernel_rfl) (decide_eq_true c21) ?_
    refine seqS8 (a' := ⟨#[.agg #[.int .i64 b1.ID, .int .i64 b1.Was.X, .int .i64 b1.Was.Y, .int .i64 b1.Was.Z, .int .i64 b1.Here.X, .int .i64 b1.Here.Y, .int .i64 b1.Here.Z, .int .i64 b1.Rate], .int .i64 day2, .pointer (some ⟨b5, 0, none⟩), undef, .pointer (some ⟨b9, 0, none⟩), .pointer (some ⟨b13, 0, none⟩), .int .i64 0, undef, undef, undef, undef, undef, undef, .int .i64 day2, .bool true, .bool true, undef, undef, .bool true, .bool true, undef, undef, undef, .bool true, undef, undef, undef, undef, undef, undef, undef, undef, undef, undef, undef, undef, undef, undef, undef, undef, undef, undef, undef, undef, undef, undef, undef, undef, undef, undef, undef, undef, undef, undef, undef, undef, undef, undef, undef, undef, undef, undef, undef, undef, undef, undef, undef, undef, undef, undef, undef, undef, undef], []⟩) (by kernel_rfl) ?_
    refine wpList_nil ?_
    refine hK20 _ _ ?_
    refine condT (by kernel_rfl) ?_
    refine wp_seq_k (fun K22 hK23 => ?_)
    refine wp_region_lit ?_
    have HS24 := HS15.u1
    refine seqL2 (by kernel_rfl) ?_
    refine seqK rfl (does_store (n := 3) (vs := [.int .i64 0, .int .i64 0, .int .i64 0]) (cs' := #[.int .i64 0, .int .i64 0, .int .i64 0]) rfl (by kernel_rfl) (by kernel_rfl : _ = Value.pointer (some ⟨b9, 0, none⟩)) (by kernel_rfl : _ = Value.agg #[.int .i64 0, .int .i64 0, .int .i64 0]) rfl rfl (by intro u_ hu_; simp only [List.mem_cons, List.not_mem_nil, or_false] at hu_; rcases hu_ with rfl | rfl | rfl <;> rfl) HS24 (Nat.le_of_ble_eq_true rfl) (by kernel_rfl) ?_)
    intro W25 HS26
    have HS27 := HS26.u1
    refine seqK rfl (does_store (n := 3) (vs := [.int .i64 0, .int .i64 0, .int .i64 0]) (cs' := #[.int .i64 0, .int .i64 0, .int .i64 0]) rfl (by kernel_rfl) (by kernel_rfl : _ = Value.pointer (some ⟨b13, 0, none⟩)) (by kernel_rfl : _ = Value.agg #[.int .i64 0, .int .i64 0, .int .i64 0]) rfl rfl (by intro u_ hu_; simp only [List.mem_cons, List.not_mem_nil, or_false] at hu_; rcases hu_ with rfl | rfl | rfl <;> rfl) HS27 (Nat.le_of_ble_eq_true rfl) (by kernel_rfl) ?_)
    intro W28 HS29
    refine seqS1 (a' := ⟨#[.agg #[.int .i64 b1.ID, .int .i64 b1.Was.X, .int .i64 b1.Was.Y, .int .i64 b1.Was.Z, .int .i64 b1.Here.X, .int .i64 b1.Here.Y, .int .i64 b1.Here.Z, .int .i64 b1.Rate], .int .i64 day2, .pointer (some ⟨b5, 0, none⟩), undef, .pointer (some ⟨b9, 0, none⟩), .pointer (some ⟨b13, 0, none⟩), .int .i64 4, undef, undef, undef, undef, undef, undef, .int .i64 day2, .bool true, .bool true, undef, undef, .bool true, .bool true, undef, undef, undef, .bool true, .agg #[.int .i64 0, .int .i64 0, .int .i64 0], .agg #[.int .i64 0, .int .i64 0, .int .i64 0], undef, undef, undef, undef, undef, undef, undef, undef, undef, undef, undef, undef, undef, undef, undef, undef, undef, undef, undef, undef, undef, undef, undef, undef, undef, undef, undef, undef, undef, undef, undef, undef, undef, undef, undef, undef, undef, undef, undef, undef, undef, undef, undef, undef, undef, undef, undef], []⟩) (by kernel_rfl) ?_
    refine wpList_nil ?_
    refine hK23 _ _ ?_
    refine wp_ret ?_
    refine hret _ _ ?_
    refine ends (v := Value.tuple #[.agg #[.int .i64 0, .int .i64 0, .int .i64 0], .agg #[.int .i64 0, .int .i64 0, .int .i64 0], .int .i64 4]) (results3 (q1 := .cell 4 23) (q2 := .cell 5 23) (q3 := .tmp 6) (by kernel_rfl) (resN (n := 3) (cs := [.int .i64 0, .int .i64 0, .int .i64 0]) (by kernel_rfl : _ = Value.pointer (some ⟨b9, 0, none⟩)) Try.underlying23 rfl (by kernel_rfl) rfl (HS29.u1.cells 0 3 _ rfl)) (resN (n := 3) (cs := [.int .i64 0, .int .i64 0, .int .i64 0]) (by kernel_rfl : _ = Value.pointer (some ⟨b13, 0, none⟩)) Try.underlying23 rfl (by kernel_rfl) rfl (HS29.cells 0 3 _ rfl)) (resT (by kernel_rfl : _ = Value.int .i64 4))) (by kernel_rfl) ?_
    have HS371 := HS29.drop
    have HS372 := HS371.drop
    have HS373 := HS372.drop
    injection h with h
    injection h with h0_ h
    injection h with h1_ h
    subst h0_ h1_ h
    exact ⟨f, rfl, FM.le.refl _, HS373⟩
  · have c21 : ¬ (day2 < (-400)) := c21
    refine seqRwI 14 (x := (decide (day2 < (-400)))) (v := false) (by kernel_rfl) (decide_eq_false c21) ?_
    refine seqRwI 15 (x := (decide (day2 < (-400)))) (v := false) (by kernel_rfl) (decide_eq_false c21) ?_
    refine seqS4 (a' := ⟨#[.agg #[.int .i64 b1.ID, .int .i64 b1.Was.X, .int .i64 b1.Was.Y, .int .i64 b1.Was.Z, .int .i64 b1.Here.X, .int .i64 b1.Here.Y, .int .i64 b1.Here.Z, .int .i64 b1.Rate], .int .i64 day2, .pointer (some ⟨b5, 0, none⟩), undef, .pointer (some ⟨b9, 0, none⟩), .pointer (some ⟨b13, 0, none⟩), .int .i64 0, undef, undef, undef, undef, undef, undef, .int .i64 day2, .bool false, .bool false, .int .i64 day2, .bool (decide (day2 > 400)), .bool (decide (day2 > 400)), .bool (decide (day2 > 400)), undef, undef, undef, undef, undef, undef, undef, undef, undef, undef, undef, undef, undef, undef, undef, undef, undef, undef, undef, undef, undef, undef, undef, undef, undef, undef, undef, undef, undef, undef, undef, undef, undef, undef, undef, undef, undef, undef, undef, undef, undef, undef, undef, undef, undef, undef, undef, undef, undef, undef, undef, undef, undef], []⟩) (by kernel_rfl) ?_
    have hq_ := ite_some h; clear h; rcases hq_ with ⟨c30, h⟩ | ⟨c30, h⟩
    · have c30 : day2 > 400 := c30
      refine seqRwI 17 (x := (decide (day2 > 400))) (v := true) (by kernel_rfl) (decide_eq_true c30) ?_
      refine seqRwI 18 (x := (decide (day2 > 400))) (v := true) (by kernel_rfl) (decide_eq_true c30) ?_
      refine seqRwI 19 (x := (decide (day2 > 400))) (v := true) (by kernel_rfl) (decide_eq_true c30) ?_
      refine seqS4 (a' := ⟨#[.agg #[.int .i64 b1.ID, .int .i64 b1.Was.X, .int .i64 b1.Was.Y, .int .i64 b1.Was.Z, .int .i64 b1.Here.X, .int .i64 b1.Here.Y, .int .i64 b1.Here.Z, .int .i64 b1.Rate], .int .i64 day2, .pointer (some ⟨b5, 0, none⟩), undef, .pointer (some ⟨b9, 0, none⟩), .pointer (some ⟨b13, 0, none⟩), .int .i64 0, undef, undef, undef, undef, undef, undef, .int .i64 day2, .bool false, .bool false, .int .i64 day2, .bool true, .bool true, .bool true, undef, undef, undef, .bool true, undef, undef, undef, undef, undef, undef, undef, undef, undef, undef, undef, undef, undef, undef, undef, undef, undef, undef, undef, undef, undef, undef, undef, undef, undef, undef, undef, undef, undef, undef, undef, undef, undef, undef, undef, undef, undef, undef, undef, undef, undef, undef, undef, undef, undef, undef, undef, undef, undef], []⟩) (by kernel_rfl) ?_
      refine wpList_nil ?_
      refine hK20 _ _ ?_
      refine condT (by kernel_rfl) ?_
      refine wp_seq_k (fun K31 hK32 => ?_)
      refine wp_region_lit ?_
      have HS33 := HS15.u1
      refine seqL2 (by kernel_rfl) ?_
      refine seqK rfl (does_store (n := 3) (vs := [.int .i64 0, .int .i64 0, .int .i64 0]) (cs' := #[.int .i64 0, .int .i64 0, .int .i64 0]) rfl (by kernel_rfl) (by kernel_rfl : _ = Value.pointer (some ⟨b9, 0, none⟩)) (by kernel_rfl : _ = Value.agg #[.int .i64 0, .int .i64 0, .int .i64 0]) rfl rfl (by intro u_ hu_; simp only [List.mem_cons, List.not_mem_nil, or_false] at hu_; rcases hu_ with rfl | rfl | rfl <;> rfl) HS33 (Nat.le_of_ble_eq_true rfl) (by kernel_rfl) ?_)
      intro W34 HS35
      have HS36 := HS35.u1
      refine seqK rfl (does_store (n := 3) (vs := [.int .i64 0, .int .i64 0, .int .i64 0]) (cs' := #[.int .i64 0, .int .i64 0, .int .i64 0]) rfl (by kernel_rfl) (by kernel_rfl : _ = Value.pointer (some ⟨b13, 0, none⟩)) (by kernel_rfl : _ = Value.agg #[.int .i64 0, .int .i64 0, .int .i64 0]) rfl rfl (by intro u_ hu_; simp only [List.mem_cons, List.not_mem_nil, or_false] at hu_; rcases hu_ with rfl | rfl | rfl <;> rfl) HS36 (Nat.le_of_ble_eq_true rfl) (by kernel_rfl) ?_)
      intro W37 HS38
      refine seqS1 (a' := ⟨#[.agg #[.int .i64 b1.ID, .int .i64 b1.Was.X, .int .i64 b1.Was.Y, .int .i64 b1.Was.Z, .int .i64 b1.Here.X, .int .i64 b1.Here.Y, .int .i64 b1.Here.Z, .int .i64 b1.Rate], .int .i64 day2, .pointer (some ⟨b5, 0, none⟩), undef, .pointer (some ⟨b9, 0, none⟩), .pointer (some ⟨b13, 0, none⟩), .int .i64 4, undef, undef, undef, undef, undef, undef, .int .i64 day2, .bool false, .bool false, .int .i64 day2, .bool true, .bool true, .bool true, undef, undef, undef, .bool true, .agg #[.int .i64 0, .int .i64 0, .int .i64 0], .agg #[.int .i64 0, .int .i64 0, .int .i64 0], undef, undef, undef, undef, undef, undef, undef, undef, undef, undef, undef, undef, undef, undef, undef, undef, undef, undef, undef, undef, undef, undef, undef, undef, undef, undef, undef, undef, undef, undef, undef, undef, undef, undef, undef, undef, undef, undef, undef, undef, undef, undef, undef, undef, undef, undef, undef], []⟩) (by kernel_rfl) ?_
      refine wpList_nil ?_
      refine hK32 _ _ ?_
      refine wp_ret ?_
      refine hret _ _ ?_
      refine ends (v := Value.tuple #[.agg #[.int .i64 0, .int .i64 0, .int .i64 0], .agg #[.int .i64 0, .int .i64 0, .int .i64 0], .int .i64 4]) (results3 (q1 := .cell 4 23) (q2 := .cell 5 23) (q3 := .tmp 6) (by kernel_rfl) (resN (n := 3) (cs := [.int .i64 0, .int .i64 0, .int .i64 0]) (by kernel_rfl : _ = Value.pointer (some ⟨b9, 0, none⟩)) Try.underlying23 rfl (by kernel_rfl) rfl (HS38.u1.cells 0 3 _ rfl)) (resN (n := 3) (cs := [.int .i64 0, .int .i64 0, .int .i64 0]) (by kernel_rfl : _ = Value.pointer (some ⟨b13, 0, none⟩)) Try.underlying23 rfl (by kernel_rfl) rfl (HS38.cells 0 3 _ rfl)) (resT (by kernel_rfl : _ = Value.int .i64 4))) (by kernel_rfl) ?_
      have HS374 := HS38.drop
      have HS375 := HS374.drop
      have HS376 := HS375.drop
      injection h with h
      injection h with h0_ h
      injection h with h1_ h
      subst h0_ h1_ h
      exact ⟨f, rfl, FM.le.refl _, HS376⟩
    · have c30 : ¬ (day2 > 400) := c30
      refine seqRwI 17 (x := (decide (day2 > 400))) (v := false) (by kernel_rfl) (decide_eq_false c30) ?_
      refine seqRwI 18 (x := (decide (day2 > 400))) (v := false) (by kernel_rfl) (decide_eq_false c30) ?_
      refine seqRwI 19 (x := (decide (day2 > 400))) (v := false) (by kernel_rfl) (decide_eq_false c30) ?_
      refine seqG (by kernel_rfl) (does_run (run_loadN (n := 8) rfl Try.underlying36 rfl (by kernel_rfl) (by kernel_rfl : _ = Value.pointer (some ⟨b5, 0, none⟩)) (cs := [.int .i64 b1.ID, .int .i64 b1.Was.X, .int .i64 b1.Was.Y, .int .i64 b1.Was.Z, .int .i64 b1.Here.X, .int .i64 b1.Here.Y, .int .i64 b1.Here.Z, .int .i64 b1.Rate]) rfl (HS15.u2.cells 0 8 _ rfl)) ?_)
      have hq_ := bind_some h; clear h; obtain ⟨vt39, hc40, h⟩ := hq_
      refine seqG (by kernel_rfl) (does_call (f := 33) (args := #[.agg #[.int .i64 b1.ID, .int .i64 b1.Was.X, .int .i64 b1.Was.Y, .int .i64 b1.Was.Z, .int .i64 b1.Here.X, .int .i64 b1.Here.Y, .int .i64 b1.Here.Z, .int .i64 b1.Rate]]) (by kernel_rfl) (sky_moves.calls k b1 HS15 vt39 hc40) ?_)
      rintro _ W43 ⟨f41, rfl, L42, HS44⟩
      refine ⟨_, rfl, ?_⟩
      refine seqS2 (a' := ⟨#[.agg #[.int .i64 b1.ID, .int .i64 b1.Was.X, .int .i64 b1.Was.Y, .int .i64 b1.Was.Z, .int .i64 b1.Here.X, .int .i64 b1.Here.Y, .int .i64 b1.Here.Z, .int .i64 b1.Rate], .int .i64 day2, .pointer (some ⟨b5, 0, none⟩), undef, .pointer (some ⟨b9, 0, none⟩), .pointer (some ⟨b13, 0, none⟩), .int .i64 0, undef, undef, undef, undef, undef, undef, .int .i64 day2, .bool false, .bool false, .int .i64 day2, .bool false, .bool false, .bool false, .agg #[.int .i64 b1.ID, .int .i64 b1.Was.X, .int .i64 b1.Was.Y, .int .i64 b1.Was.Z, .int .i64 b1.Here.X, .int .i64 b1.Here.Y, .int .i64 b1.Here.Z, .int .i64 b1.Rate], .bool vt39, .bool (!vt39), .bool (!vt39), undef, undef, undef, undef, undef, undef, undef, undef, undef, undef, undef, undef, undef, undef, undef, undef, undef, undef, undef, undef, undef, undef, undef, undef, undef, undef, undef, undef, undef, undef, undef, undef, undef, undef, undef, undef, undef, undef, undef, undef, undef, undef, undef, undef, undef, undef, undef, undef, undef], []⟩) (by kernel_rfl) ?_
      refine wpList_nil ?_
      refine hK20 _ _ ?_
      have hq_ := ite_some h; clear h; rcases hq_ with ⟨c46, h⟩ | ⟨c46, h⟩
      · have c46 : ¬ (vt39 = true) := c46
        refine wpRwI 22 (x := (!vt39)) (v := true) (by kernel_rfl) (congrArg (fun b_ => !b_) (show vt39 = false from (Bool.eq_false_iff.mpr c46)) : (!vt39) = true) ?_
        refine wpRwI 23 (x := (!vt39)) (v := true) (by kernel_rfl) (congrArg (fun b_ => !b_) (show vt39 = false from (Bool.eq_false_iff.mpr c46)) : (!vt39) = true) ?_
        refine condT (by kernel_rfl) ?_
        refine wp_seq_k (fun K47 hK48 => ?_)
        refine wp_region_lit ?_
        have HS49 := HS44.u1
        refine seqL2 (by kernel_rfl) ?_
        refine seqK rfl (does_store (n := 3) (vs := [.int .i64 0, .int .i64 0, .int .i64 0]) (cs' := #[.int .i64 0, .int .i64 0, .int .i64 0]) rfl (by kernel_rfl) (by kernel_rfl : _ = Value.pointer (some ⟨b9, 0, none⟩)) (by kernel_rfl : _ = Value.agg #[.int .i64 0, .int .i64 0, .int .i64 0]) rfl rfl (by intro u_ hu_; simp only [List.mem_cons, List.not_mem_nil, or_false] at hu_; rcases hu_ with rfl | rfl | rfl <;> rfl) HS49 (Nat.le_of_ble_eq_true rfl) (by kernel_rfl) ?_)
        intro W50 HS51
        have HS52 := HS51.u1
        refine seqK rfl (does_store (n := 3) (vs := [.int .i64 0, .int .i64 0, .int .i64 0]) (cs' := #[.int .i64 0, .int .i64 0, .int .i64 0]) rfl (by kernel_rfl) (by kernel_rfl : _ = Value.pointer (some ⟨b13, 0, none⟩)) (by kernel_rfl : _ = Value.agg #[.int .i64 0, .int .i64 0, .int .i64 0]) rfl rfl (by intro u_ hu_; simp only [List.mem_cons, List.not_mem_nil, or_false] at hu_; rcases hu_ with rfl | rfl | rfl <;> rfl) HS52 (Nat.le_of_ble_eq_true rfl) (by kernel_rfl) ?_)
        intro W53 HS54
        refine seqS1 (a' := ⟨#[.agg #[.int .i64 b1.ID, .int .i64 b1.Was.X, .int .i64 b1.Was.Y, .int .i64 b1.Was.Z, .int .i64 b1.Here.X, .int .i64 b1.Here.Y, .int .i64 b1.Here.Z, .int .i64 b1.Rate], .int .i64 day2, .pointer (some ⟨b5, 0, none⟩), undef, .pointer (some ⟨b9, 0, none⟩), .pointer (some ⟨b13, 0, none⟩), .int .i64 4, undef, undef, undef, undef, undef, undef, .int .i64 day2, .bool false, .bool false, .int .i64 day2, .bool false, .bool false, .bool false, .agg #[.int .i64 b1.ID, .int .i64 b1.Was.X, .int .i64 b1.Was.Y, .int .i64 b1.Was.Z, .int .i64 b1.Here.X, .int .i64 b1.Here.Y, .int .i64 b1.Here.Z, .int .i64 b1.Rate], .bool vt39, .bool true, .bool true, .agg #[.int .i64 0, .int .i64 0, .int .i64 0], .agg #[.int .i64 0, .int .i64 0, .int .i64 0], undef, undef, undef, undef, undef, undef, undef, undef, undef, undef, undef, undef, undef, undef, undef, undef, undef, undef, undef, undef, undef, undef, undef, undef, undef, undef, undef, undef, undef, undef, undef, undef, undef, undef, undef, undef, undef, undef, undef, undef, undef, undef, undef, undef, undef, undef, undef], []⟩) (by kernel_rfl) ?_
        refine wpList_nil ?_
        refine hK48 _ _ ?_
        refine wp_ret ?_
        refine hret _ _ ?_
        refine ends (v := Value.tuple #[.agg #[.int .i64 0, .int .i64 0, .int .i64 0], .agg #[.int .i64 0, .int .i64 0, .int .i64 0], .int .i64 4]) (results3 (q1 := .cell 4 23) (q2 := .cell 5 23) (q3 := .tmp 6) (by kernel_rfl) (resN (n := 3) (cs := [.int .i64 0, .int .i64 0, .int .i64 0]) (by kernel_rfl : _ = Value.pointer (some ⟨b9, 0, none⟩)) Try.underlying23 rfl (by kernel_rfl) rfl (HS54.u1.cells 0 3 _ rfl)) (resN (n := 3) (cs := [.int .i64 0, .int .i64 0, .int .i64 0]) (by kernel_rfl : _ = Value.pointer (some ⟨b13, 0, none⟩)) Try.underlying23 rfl (by kernel_rfl) rfl (HS54.cells 0 3 _ rfl)) (resT (by kernel_rfl : _ = Value.int .i64 4))) (by kernel_rfl) ?_
        have HS377 := HS54.drop
        have HS378 := HS377.drop
        have HS379 := HS378.drop
        injection h with h
        injection h with h0_ h
        injection h with h1_ h
        subst h0_ h1_ h
        exact ⟨f41, rfl, L42, HS379⟩
      · have c46 : ¬ (¬ (vt39 = true)) := c46
        refine wpRwI 22 (x := (!vt39)) (v := false) (by kernel_rfl) (congrArg (fun b_ => !b_) (show vt39 = true from (Decidable.of_not_not c46)) : (!vt39) = false) ?_
        refine wpRwI 23 (x := (!vt39)) (v := false) (by kernel_rfl) (congrArg (fun b_ => !b_) (show vt39 = true from (Decidable.of_not_not c46)) : (!vt39) = false) ?_
        refine condF (by kernel_rfl) ?_
        refine wp_skip ?_
        refine hK18 _ _ ?_
        refine wp_seq_k (fun K55 hK56 => ?_)
        have HS57 := HS44.u2
        have HS58 := HS57.u2
        have HS59 := HS58.u2
        refine heldG (S := Sg t f41 ([(b5, .cells #[.int .i64 b1.ID, .int .i64 b1.Was.X, .int .i64 b1.Was.Y, .int .i64 b1.Was.Z, .int .i64 b1.Here.X, .int .i64 b1.Here.Y, .int .i64 b1.Here.Z, .int .i64 b1.Rate] 36 (0, 0))] :: H) [(5, [(b13, .cells #[.int .i64 0, .int .i64 0, .int .i64 0] 23 (0, 0))]), (4, [(b9, .cells #[.int .i64 0, .int .i64 0, .int .i64 0] 23 (0, 0))])]) (n := 6) (by kernel_rfl) rfl HS59 ?_
        intro W60 HS61
        refine takeG [0] (n := 6) (fuel := 5) (l' := #[true, false, false, false, false, false]) (a' := ⟨#[.agg #[.int .i64 b1.ID, .int .i64 b1.Was.X, .int .i64 b1.Was.Y, .int .i64 b1.Was.Z, .int .i64 b1.Here.X, .int .i64 b1.Here.Y, .int .i64 b1.Here.Z, .int .i64 b1.Rate], .int .i64 day2, .pointer (some ⟨b5, 0, none⟩), undef, .pointer (some ⟨b9, 0, none⟩), .pointer (some ⟨b13, 0, none⟩), .int .i64 0, undef, undef, undef, undef, undef, undef, .int .i64 day2, .bool false, .bool false, .int .i64 day2, .bool false, .bool false, .bool false, .agg #[.int .i64 b1.ID, .int .i64 b1.Was.X, .int .i64 b1.Was.Y, .int .i64 b1.Was.Z, .int .i64 b1.Here.X, .int .i64 b1.Here.Y, .int .i64 b1.Here.Z, .int .i64 b1.Rate], .bool vt39, .bool false, .bool false, undef, undef, .pointer (some ⟨b5, 1, none⟩), undef, undef, undef, undef, undef, undef, undef, undef, undef, undef, undef, undef, undef, undef, undef, undef, undef, undef, undef, undef, undef, undef, undef, undef, undef, undef, undef, undef, undef, undef, undef, undef, undef, undef, undef, undef, undef, undef, undef, undef, undef, undef, undef, undef, undef, undef], []⟩) rfl (by kernel_rfl) (by kernel_rfl) (by kernel_rfl) hnp (Sg.g2 (Sx.of [[(b13, .cells #[.int .i64 0, .int .i64 0, .int .i64 0] 23 (0, 0))], [(b9, .cells #[.int .i64 0, .int .i64 0, .int .i64 0] 23 (0, 0))]] (FM.le.refl _) HS61) (fun _ => St.only [] HS61 (FM.le.refl _)) (fun _ => St.only [[(b13, .cells #[.int .i64 0, .int .i64 0, .int .i64 0] 23 (0, 0))]] HS61 (FM.le.refl _))) ?_
        refine takeGQ 1 [] rfl (by kernel_rfl) (by kernel_rfl) (by kernel_rfl) (by kernel_rfl) (by kernel_rfl) (by kernel_rfl) hnp (Sg.g2 (Sx.of [[(b13, .cells #[.int .i64 0, .int .i64 0, .int .i64 0] 23 (0, 0))], [(b9, .cells #[.int .i64 0, .int .i64 0, .int .i64 0] 23 (0, 0))]] (FM.le.refl _) HS61) (fun _ => St.only [] HS61 (FM.le.refl _)) (fun _ => St.only [[(b13, .cells #[.int .i64 0, .int .i64 0, .int .i64 0] 23 (0, 0))]] HS61 (FM.le.refl _))) (fun w_ hw_ => by obtain ⟨g_, hl_, hS_⟩ := hw_.st; exact run_loadN (n := 3) rfl Try.underlying23 rfl (by kernel_rfl) (by kernel_rfl : _ = Value.pointer (some ⟨b5, 1, none⟩)) (cs := [.int .i64 b1.Was.X, .int .i64 b1.Was.Y, .int .i64 b1.Was.Z]) rfl (hS_.cells 1 3 _ rfl)) ?_
        refine takeG [2] (n := 4) (fuel := 3) (l' := #[true, true, true, false, false, false]) (a' := ⟨#[.agg #[.int .i64 b1.ID, .int .i64 b1.Was.X, .int .i64 b1.Was.Y, .int .i64 b1.Was.Z, .int .i64 b1.Here.X, .int .i64 b1.Here.Y, .int .i64 b1.Here.Z, .int .i64 b1.Rate], .int .i64 day2, .pointer (some ⟨b5, 0, none⟩), undef, .pointer (some ⟨b9, 0, none⟩), .pointer (some ⟨b13, 0, none⟩), .int .i64 0, undef, undef, undef, undef, undef, undef, .int .i64 day2, .bool false, .bool false, .int .i64 day2, .bool false, .bool false, .bool false, .agg #[.int .i64 b1.ID, .int .i64 b1.Was.X, .int .i64 b1.Was.Y, .int .i64 b1.Was.Z, .int .i64 b1.Here.X, .int .i64 b1.Here.Y, .int .i64 b1.Here.Z, .int .i64 b1.Rate], .bool vt39, .bool false, .bool false, undef, undef, .pointer (some ⟨b5, 1, none⟩), .agg #[.int .i64 b1.Was.X, .int .i64 b1.Was.Y, .int .i64 b1.Was.Z], .pointer (some ⟨b5, 4, none⟩), undef, undef, undef, undef, undef, undef, undef, undef, undef, undef, undef, undef, undef, undef, undef, undef, undef, undef, undef, undef, undef, undef, undef, undef, undef, undef, undef, undef, undef, undef, undef, undef, undef, undef, undef, undef, undef, undef, undef, undef, undef, undef, undef, undef], []⟩) rfl (by kernel_rfl) (by kernel_rfl) (by kernel_rfl) hnp (Sg.g2 (Sx.of [[(b13, .cells #[.int .i64 0, .int .i64 0, .int .i64 0] 23 (0, 0))], [(b9, .cells #[.int .i64 0, .int .i64 0, .int .i64 0] 23 (0, 0))]] (FM.le.refl _) HS61) (fun _ => St.only [] HS61 (FM.le.refl _)) (fun _ => St.only [[(b13, .cells #[.int .i64 0, .int .i64 0, .int .i64 0] 23 (0, 0))]] HS61 (FM.le.refl _))) ?_
        refine takeGQ 3 [] rfl (by kernel_rfl) (by kernel_rfl) (by kernel_rfl) (by kernel_rfl) (by kernel_rfl) (by kernel_rfl) hnp (Sg.g2 (Sx.of [[(b13, .cells #[.int .i64 0, .int .i64 0, .int .i64 0] 23 (0, 0))], [(b9, .cells #[.int .i64 0, .int .i64 0, .int .i64 0] 23 (0, 0))]] (FM.le.refl _) HS61) (fun _ => St.only [] HS61 (FM.le.refl _)) (fun _ => St.only [[(b13, .cells #[.int .i64 0, .int .i64 0, .int .i64 0] 23 (0, 0))]] HS61 (FM.le.refl _))) (fun w_ hw_ => by obtain ⟨g_, hl_, hS_⟩ := hw_.st; exact run_loadN (n := 3) rfl Try.underlying23 rfl (by kernel_rfl) (by kernel_rfl : _ = Value.pointer (some ⟨b5, 4, none⟩)) (cs := [.int .i64 b1.Here.X, .int .i64 b1.Here.Y, .int .i64 b1.Here.Z]) rfl (hS_.cells 4 3 _ rfl)) ?_
        have HS62 := HS61.u1
        refine takeGE 4 (by kernel_rfl) rfl (by kernel_rfl) (does_store (n := 3) (vs := [.int .i64 b1.Was.X, .int .i64 b1.Was.Y, .int .i64 b1.Was.Z]) (cs' := #[.int .i64 b1.Was.X, .int .i64 b1.Was.Y, .int .i64 b1.Was.Z]) rfl (by kernel_rfl) (by kernel_rfl : _ = Value.pointer (some ⟨b9, 0, none⟩)) (by kernel_rfl : _ = Value.agg #[.int .i64 b1.Was.X, .int .i64 b1.Was.Y, .int .i64 b1.Was.Z]) rfl rfl (by intro u_ hu_; simp only [List.mem_cons, List.not_mem_nil, or_false] at hu_; rcases hu_ with rfl | rfl | rfl <;> rfl) HS62 (Nat.le_of_ble_eq_true rfl) (by kernel_rfl) ?_)
        intro W63 HS64
        refine ⟨(Sg.g2 (Sx.of [[(b9, .cells #[.int .i64 b1.Was.X, .int .i64 b1.Was.Y, .int .i64 b1.Was.Z] 23 (0, 0))], [(b13, .cells #[.int .i64 0, .int .i64 0, .int .i64 0] 23 (0, 0))]] (FM.le.refl _) HS64) (fun _ => St.only [[(b9, .cells #[.int .i64 b1.Was.X, .int .i64 b1.Was.Y, .int .i64 b1.Was.Z] 23 (0, 0))]] HS64 (FM.le.refl _)) (fun hl_ => Bool.noConfusion (show true = false from hl_))), ?_⟩
        have HS65 := HS64.u1
        refine takeGE 5 (by kernel_rfl) rfl (by kernel_rfl) (does_store (n := 3) (vs := [.int .i64 b1.Here.X, .int .i64 b1.Here.Y, .int .i64 b1.Here.Z]) (cs' := #[.int .i64 b1.Here.X, .int .i64 b1.Here.Y, .int .i64 b1.Here.Z]) rfl (by kernel_rfl) (by kernel_rfl : _ = Value.pointer (some ⟨b13, 0, none⟩)) (by kernel_rfl : _ = Value.agg #[.int .i64 b1.Here.X, .int .i64 b1.Here.Y, .int .i64 b1.Here.Z]) rfl rfl (by intro u_ hu_; simp only [List.mem_cons, List.not_mem_nil, or_false] at hu_; rcases hu_ with rfl | rfl | rfl <;> rfl) HS65 (Nat.le_of_ble_eq_true rfl) (by kernel_rfl) ?_)
        intro W66 HS67
        refine ⟨(Sg.g2 (Sx.of [[(b13, .cells #[.int .i64 b1.Here.X, .int .i64 b1.Here.Y, .int .i64 b1.Here.Z] 23 (0, 0))], [(b9, .cells #[.int .i64 b1.Was.X, .int .i64 b1.Was.Y, .int .i64 b1.Was.Z] 23 (0, 0))]] (FM.le.refl _) HS67) (fun hl_ => Bool.noConfusion (show true = false from hl_)) (fun hl_ => Bool.noConfusion (show true = false from hl_))), ?_⟩
        refine doneG (by kernel_rfl) ?_ _
        refine hK56 _ _ ?_
        refine wp_seq_k (fun K68 hK69 => ?_)
        refine wp_seq_k (fun K70 hK71 => ?_)
        refine wp_region_lit ?_
        refine seqS2 (a' := ⟨#[.agg #[.int .i64 b1.ID, .int .i64 b1.Was.X, .int .i64 b1.Was.Y, .int .i64 b1.Was.Z, .int .i64 b1.Here.X, .int .i64 b1.Here.Y, .int .i64 b1.Here.Z, .int .i64 b1.Rate], .int .i64 day2, .pointer (some ⟨b5, 0, none⟩), undef, .pointer (some ⟨b9, 0, none⟩), .pointer (some ⟨b13, 0, none⟩), .int .i64 0, .int .i64 day2, undef, undef, undef, undef, undef, .int .i64 day2, .bool false, .bool false, .int .i64 day2, .bool false, .bool false, .bool false, .agg #[.int .i64 b1.ID, .int .i64 b1.Was.X, .int .i64 b1.Was.Y, .int .i64 b1.Was.Z, .int .i64 b1.Here.X, .int .i64 b1.Here.Y, .int .i64 b1.Here.Z, .int .i64 b1.Rate], .bool vt39, .bool false, .bool false, undef, undef, .pointer (some ⟨b5, 1, none⟩), .agg #[.int .i64 b1.Was.X, .int .i64 b1.Was.Y, .int .i64 b1.Was.Z], .pointer (some ⟨b5, 4, none⟩), .agg #[.int .i64 b1.Here.X, .int .i64 b1.Here.Y, .int .i64 b1.Here.Z], .int .i64 day2, undef, undef, undef, undef, undef, undef, undef, undef, undef, undef, undef, undef, undef, undef, undef, undef, undef, undef, undef, undef, undef, undef, undef, undef, undef, undef, undef, undef, undef, undef, undef, undef, undef, undef, undef, undef, undef, undef, undef, undef, undef, undef], []⟩) (by kernel_rfl) ?_
        refine wpList_nil ?_
        refine hK71 _ _ ?_
        refine blockK (fun B72 hx73 hn74 hr75 ho76 hp77 => ?_)
        have hq_ := bind_some h; clear h; obtain ⟨o132, hv204, h⟩ := hq_
        have J205 : ∀ (f192 : FM) (e197 : Int) (x198 : Int) (x199 : Int) (x200 : Int) (x201 : Int) (x202 : Int) (x203 : Int) (j196 : Nat → Value) (W194 : World) (a_ : Act), FM.le f41 f192 → some ((e197, x198, x199, x200, x201, x202, x203)) = some o132 → St t W194 f192 ([(b13, .cells #[.int .i64 x198, .int .i64 x199, .int .i64 x200] 23 (0, 0))] :: [(b9, .cells #[.int .i64 x201, .int .i64 x202, .int .i64 x203] 23 (0, 0))] :: [(b5, .cells #[.int .i64 b1.ID, .int .i64 b1.Was.X, .int .i64 b1.Was.Y, .int .i64 b1.Was.Z, .int .i64 b1.Here.X, .int .i64 b1.Here.Y, .int .i64 b1.Here.Z, .int .i64 b1.Rate] 36 (0, 0))] :: H) → a_ = ⟨#[.agg #[.int .i64 b1.ID, .int .i64 b1.Was.X, .int .i64 b1.Was.Y, .int .i64 b1.Was.Z, .int .i64 b1.Here.X, .int .i64 b1.Here.Y, .int .i64 b1.Here.Z, .int .i64 b1.Rate], .int .i64 day2, .pointer (some ⟨b5, 0, none⟩), undef, .pointer (some ⟨b9, 0, none⟩), .pointer (some ⟨b13, 0, none⟩), .int .i64 e197, (j196 0), (j196 1), (j196 2), undef, undef, undef, .int .i64 day2, .bool false, .bool false, .int .i64 day2, .bool false, .bool false, .bool false, .agg #[.int .i64 b1.ID, .int .i64 b1.Was.X, .int .i64 b1.Was.Y, .int .i64 b1.Was.Z, .int .i64 b1.Here.X, .int .i64 b1.Here.Y, .int .i64 b1.Here.Z, .int .i64 b1.Rate], .bool vt39, .bool false, .bool false, undef, undef, .pointer (some ⟨b5, 1, none⟩), .agg #[.int .i64 b1.Was.X, .int .i64 b1.Was.Y, .int .i64 b1.Was.Z], .pointer (some ⟨b5, 4, none⟩), .agg #[.int .i64 b1.Here.X, .int .i64 b1.Here.Y, .int .i64 b1.Here.Z], .int .i64 day2, (j196 3), (j196 4), (j196 5), (j196 6), (j196 7), (j196 8), (j196 9), (j196 10), (j196 11), (j196 12), (j196 13), (j196 14), (j196 15), (j196 16), (j196 17), (j196 18), (j196 19), undef, undef, undef, undef, undef, undef, undef, undef, undef, undef, undef, undef, undef, undef, undef, undef, undef, undef, undef, undef, undef, undef, undef, undef, undef], []⟩ → K68 a_ W194 := by
          intro f192 e197 x198 x199 x200 x201 x202 x203 j196 W194 a_ L193 hj206 HS195  hfr_; subst hfr_
          injection hj206 with hj206; subst hj206; try dsimp only at h
          refine hK69 _ _ ?_
          refine wp_seq_k (fun K212 hK213 => ?_)
          refine wp_seq_k (fun K214 hK215 => ?_)
          refine wp_region_lit ?_
          refine seqS2 (a' := ⟨#[.agg #[.int .i64 b1.ID, .int .i64 b1.Was.X, .int .i64 b1.Was.Y, .int .i64 b1.Was.Z, .int .i64 b1.Here.X, .int .i64 b1.Here.Y, .int .i64 b1.Here.Z, .int .i64 b1.Rate], .int .i64 day2, .pointer (some ⟨b5, 0, none⟩), undef, .pointer (some ⟨b9, 0, none⟩), .pointer (some ⟨b13, 0, none⟩), .int .i64 e197, (j196 0), (j196 1), (j196 2), .int .i64 day2, undef, undef, .int .i64 day2, .bool false, .bool false, .int .i64 day2, .bool false, .bool false, .bool false, .agg #[.int .i64 b1.ID, .int .i64 b1.Was.X, .int .i64 b1.Was.Y, .int .i64 b1.Was.Z, .int .i64 b1.Here.X, .int .i64 b1.Here.Y, .int .i64 b1.Here.Z, .int .i64 b1.Rate], .bool vt39, .bool false, .bool false, undef, undef, .pointer (some ⟨b5, 1, none⟩), .agg #[.int .i64 b1.Was.X, .int .i64 b1.Was.Y, .int .i64 b1.Was.Z], .pointer (some ⟨b5, 4, none⟩), .agg #[.int .i64 b1.Here.X, .int .i64 b1.Here.Y, .int .i64 b1.Here.Z], .int .i64 day2, (j196 3), (j196 4), (j196 5), (j196 6), (j196 7), (j196 8), (j196 9), (j196 10), (j196 11), (j196 12), (j196 13), (j196 14), (j196 15), (j196 16), (j196 17), (j196 18), (j196 19), .int .i64 day2, undef, undef, undef, undef, undef, undef, undef, undef, undef, undef, undef, undef, undef, undef, undef, undef, undef, undef, undef, undef, undef, undef, undef, undef], []⟩) (by kernel_rfl) ?_
          refine wpList_nil ?_
          refine hK215 _ _ ?_
          refine blockK (fun B216 hx217 hn218 hr219 ho220 hp221 => ?_)
          have hq_ := bind_some h; clear h; obtain ⟨o270, hv336, h⟩ := hq_
          have J337 : ∀ (f324 : FM) (e329 : Int) (x330 : Int) (x331 : Int) (x332 : Int) (x333 : Int) (x334 : Int) (x335 : Int) (j328 : Nat → Value) (W326 : World) (a_ : Act), FM.le f192 f324 → some ((e329, x330, x331, x332, x333, x334, x335)) = some o270 → St t W326 f324 ([(b13, .cells #[.int .i64 x330, .int .i64 x331, .int .i64 x332] 23 (0, 0))] :: [(b9, .cells #[.int .i64 x333, .int .i64 x334, .int .i64 x335] 23 (0, 0))] :: [(b5, .cells #[.int .i64 b1.ID, .int .i64 b1.Was.X, .int .i64 b1.Was.Y, .int .i64 b1.Was.Z, .int .i64 b1.Here.X, .int .i64 b1.Here.Y, .int .i64 b1.Here.Z, .int .i64 b1.Rate] 36 (0, 0))] :: H) → a_ = ⟨#[.agg #[.int .i64 b1.ID, .int .i64 b1.Was.X, .int .i64 b1.Was.Y, .int .i64 b1.Was.Z, .int .i64 b1.Here.X, .int .i64 b1.Here.Y, .int .i64 b1.Here.Z, .int .i64 b1.Rate], .int .i64 day2, .pointer (some ⟨b5, 0, none⟩), undef, .pointer (some ⟨b9, 0, none⟩), .pointer (some ⟨b13, 0, none⟩), .int .i64 e329, (j196 0), (j196 1), (j196 2), (j328 0), (j328 1), (j328 2), .int .i64 day2, .bool false, .bool false, .int .i64 day2, .bool false, .bool false, .bool false, .agg #[.int .i64 b1.ID, .int .i64 b1.Was.X, .int .i64 b1.Was.Y, .int .i64 b1.Was.Z, .int .i64 b1.Here.X, .int .i64 b1.Here.Y, .int .i64 b1.Here.Z, .int .i64 b1.Rate], .bool vt39, .bool false, .bool false, undef, undef, .pointer (some ⟨b5, 1, none⟩), .agg #[.int .i64 b1.Was.X, .int .i64 b1.Was.Y, .int .i64 b1.Was.Z], .pointer (some ⟨b5, 4, none⟩), .agg #[.int .i64 b1.Here.X, .int .i64 b1.Here.Y, .int .i64 b1.Here.Z], .int .i64 day2, (j196 3), (j196 4), (j196 5), (j196 6), (j196 7), (j196 8), (j196 9), (j196 10), (j196 11), (j196 12), (j196 13), (j196 14), (j196 15), (j196 16), (j196 17), (j196 18), (j196 19), .int .i64 day2, (j328 3), (j328 4), (j328 5), (j328 6), (j328 7), (j328 8), (j328 9), (j328 10), (j328 11), (j328 12), (j328 13), (j328 14), (j328 15), (j328 16), (j328 17), (j328 18), (j328 19), undef, undef, undef, undef, undef, undef, undef], []⟩ → K212 a_ W326 := by
            intro f324 e329 x330 x331 x332 x333 x334 x335 j328 W326 a_ L325 hj338 HS327  hfr_; subst hfr_
            injection hj338 with hj338; subst hj338; try dsimp only at h
            refine hK213 _ _ ?_
            refine wp_seq_k (fun K344 hK345 => ?_)
            refine wp_seq_k (fun K346 hK347 => ?_)
            refine wp_region_lit ?_
            refine seqS2 (a' := ⟨#[.agg #[.int .i64 b1.ID, .int .i64 b1.Was.X, .int .i64 b1.Was.Y, .int .i64 b1.Was.Z, .int .i64 b1.Here.X, .int .i64 b1.Here.Y, .int .i64 b1.Here.Z, .int .i64 b1.Rate], .int .i64 day2, .pointer (some ⟨b5, 0, none⟩), undef, .pointer (some ⟨b9, 0, none⟩), .pointer (some ⟨b13, 0, none⟩), .int .i64 e329, (j196 0), (j196 1), (j196 2), (j328 0), (j328 1), (j328 2), .int .i64 day2, .bool false, .bool false, .int .i64 day2, .bool false, .bool false, .bool false, .agg #[.int .i64 b1.ID, .int .i64 b1.Was.X, .int .i64 b1.Was.Y, .int .i64 b1.Was.Z, .int .i64 b1.Here.X, .int .i64 b1.Here.Y, .int .i64 b1.Here.Z, .int .i64 b1.Rate], .bool vt39, .bool false, .bool false, undef, undef, .pointer (some ⟨b5, 1, none⟩), .agg #[.int .i64 b1.Was.X, .int .i64 b1.Was.Y, .int .i64 b1.Was.Z], .pointer (some ⟨b5, 4, none⟩), .agg #[.int .i64 b1.Here.X, .int .i64 b1.Here.Y, .int .i64 b1.Here.Z], .int .i64 day2, (j196 3), (j196 4), (j196 5), (j196 6), (j196 7), (j196 8), (j196 9), (j196 10), (j196 11), (j196 12), (j196 13), (j196 14), (j196 15), (j196 16), (j196 17), (j196 18), (j196 19), .int .i64 day2, (j328 3), (j328 4), (j328 5), (j328 6), (j328 7), (j328 8), (j328 9), (j328 10), (j328 11), (j328 12), (j328 13), (j328 14), (j328 15), (j328 16), (j328 17), (j328 18), (j328 19), .int .i64 e329, .bool (e329 != 0), undef, undef, undef, undef, undef], []⟩) (by kernel_rfl) ?_
            refine wpList_nil ?_
            refine hK347 _ _ ?_
            have hq_ := ite_some h; clear h; rcases hq_ with ⟨c349, h⟩ | ⟨c349, h⟩
            · have c349 : e329 ≠ 0 := c349
              refine wpRwI 67 (x := (e329 != 0)) (v := true) (by kernel_rfl) (bne_iff_ne.mpr c349) ?_
              refine condT (by kernel_rfl) ?_
              refine wp_seq_k (fun K350 hK351 => ?_)
              refine wp_region_lit ?_
              have HS352 := HS327.u1
              refine seqL3 (by kernel_rfl) ?_
              refine seqK rfl (does_store (n := 3) (vs := [.int .i64 0, .int .i64 0, .int .i64 0]) (cs' := #[.int .i64 0, .int .i64 0, .int .i64 0]) rfl (by kernel_rfl) (by kernel_rfl : _ = Value.pointer (some ⟨b9, 0, none⟩)) (by kernel_rfl : _ = Value.agg #[.int .i64 0, .int .i64 0, .int .i64 0]) rfl rfl (by intro u_ hu_; simp only [List.mem_cons, List.not_mem_nil, or_false] at hu_; rcases hu_ with rfl | rfl | rfl <;> rfl) HS352 (Nat.le_of_ble_eq_true rfl) (by kernel_rfl) ?_)
              intro W353 HS354
              have HS355 := HS354.u1
              refine seqK rfl (does_store (n := 3) (vs := [.int .i64 0, .int .i64 0, .int .i64 0]) (cs' := #[.int .i64 0, .int .i64 0, .int .i64 0]) rfl (by kernel_rfl) (by kernel_rfl : _ = Value.pointer (some ⟨b13, 0, none⟩)) (by kernel_rfl : _ = Value.agg #[.int .i64 0, .int .i64 0, .int .i64 0]) rfl rfl (by intro u_ hu_; simp only [List.mem_cons, List.not_mem_nil, or_false] at hu_; rcases hu_ with rfl | rfl | rfl <;> rfl) HS355 (Nat.le_of_ble_eq_true rfl) (by kernel_rfl) ?_)
              intro W356 HS357
              refine seqS1 (a' := ⟨#[.agg #[.int .i64 b1.ID, .int .i64 b1.Was.X, .int .i64 b1.Was.Y, .int .i64 b1.Was.Z, .int .i64 b1.Here.X, .int .i64 b1.Here.Y, .int .i64 b1.Here.Z, .int .i64 b1.Rate], .int .i64 day2, .pointer (some ⟨b5, 0, none⟩), undef, .pointer (some ⟨b9, 0, none⟩), .pointer (some ⟨b13, 0, none⟩), .int .i64 e329, (j196 0), (j196 1), (j196 2), (j328 0), (j328 1), (j328 2), .int .i64 day2, .bool false, .bool false, .int .i64 day2, .bool false, .bool false, .bool false, .agg #[.int .i64 b1.ID, .int .i64 b1.Was.X, .int .i64 b1.Was.Y, .int .i64 b1.Was.Z, .int .i64 b1.Here.X, .int .i64 b1.Here.Y, .int .i64 b1.Here.Z, .int .i64 b1.Rate], .bool vt39, .bool false, .bool false, undef, undef, .pointer (some ⟨b5, 1, none⟩), .agg #[.int .i64 b1.Was.X, .int .i64 b1.Was.Y, .int .i64 b1.Was.Z], .pointer (some ⟨b5, 4, none⟩), .agg #[.int .i64 b1.Here.X, .int .i64 b1.Here.Y, .int .i64 b1.Here.Z], .int .i64 day2, (j196 3), (j196 4), (j196 5), (j196 6), (j196 7), (j196 8), (j196 9), (j196 10), (j196 11), (j196 12), (j196 13), (j196 14), (j196 15), (j196 16), (j196 17), (j196 18), (j196 19), .int .i64 day2, (j328 3), (j328 4), (j328 5), (j328 6), (j328 7), (j328 8), (j328 9), (j328 10), (j328 11), (j328 12), (j328 13), (j328 14), (j328 15), (j328 16), (j328 17), (j328 18), (j328 19), .int .i64 e329, .bool true, .agg #[.int .i64 0, .int .i64 0, .int .i64 0], .agg #[.int .i64 0, .int .i64 0, .int .i64 0], .int .i64 e329, undef, undef], []⟩) (by kernel_rfl) ?_
              refine wpList_nil ?_
              refine hK351 _ _ ?_
              refine wp_ret ?_
              refine hret _ _ ?_
              refine ends (v := Value.tuple #[.agg #[.int .i64 0, .int .i64 0, .int .i64 0], .agg #[.int .i64 0, .int .i64 0, .int .i64 0], .int .i64 e329]) (results3 (q1 := .cell 4 23) (q2 := .cell 5 23) (q3 := .tmp 6) (by kernel_rfl) (resN (n := 3) (cs := [.int .i64 0, .int .i64 0, .int .i64 0]) (by kernel_rfl : _ = Value.pointer (some ⟨b9, 0, none⟩)) Try.underlying23 rfl (by kernel_rfl) rfl (HS357.u1.cells 0 3 _ rfl)) (resN (n := 3) (cs := [.int .i64 0, .int .i64 0, .int .i64 0]) (by kernel_rfl : _ = Value.pointer (some ⟨b13, 0, none⟩)) Try.underlying23 rfl (by kernel_rfl) rfl (HS357.cells 0 3 _ rfl)) (resT (by kernel_rfl : _ = Value.int .i64 e329))) (by kernel_rfl) ?_
              have HS380 := HS357.drop
              have HS381 := HS380.drop
              have HS382 := HS381.drop
              injection h with h
              injection h with h0_ h
              injection h with h1_ h
              subst h0_ h1_ h
              exact ⟨f324, rfl, (L42.trans (L193.trans L325)), HS382⟩
            · have c349 : ¬ (e329 ≠ 0) := c349
              refine wpRwI 67 (x := (e329 != 0)) (v := false) (by kernel_rfl) (bne_eq_false_iff_eq.mpr (Decidable.of_not_not c349)) ?_
              refine condF (by kernel_rfl) ?_
              refine wp_skip ?_
              refine hK345 _ _ ?_
              refine wp_seq_k (fun K358 hK359 => ?_)
              have HS360 := HS327.u2
              have HS361 := HS360.u2
              have HS362 := HS361.u2
              refine heldG (S := Sg t f324 ([(b5, .cells #[.int .i64 b1.ID, .int .i64 b1.Was.X, .int .i64 b1.Was.Y, .int .i64 b1.Was.Z, .int .i64 b1.Here.X, .int .i64 b1.Here.Y, .int .i64 b1.Here.Z, .int .i64 b1.Rate] 36 (0, 0))] :: H) [(3, [(b13, .cells #[.int .i64 x330, .int .i64 x331, .int .i64 x332] 23 (0, 0))]), (2, [(b9, .cells #[.int .i64 x333, .int .i64 x334, .int .i64 x335] 23 (0, 0))])]) (n := 5) (by kernel_rfl) rfl HS362 ?_
              intro W363 HS364
              refine takeGQ 0 [2] rfl (by kernel_rfl) (by kernel_rfl) (by kernel_rfl) (by kernel_rfl) (by kernel_rfl) (by kernel_rfl) hnp (Sg.g2 (Sx.of [[(b13, .cells #[.int .i64 x330, .int .i64 x331, .int .i64 x332] 23 (0, 0))], [(b9, .cells #[.int .i64 x333, .int .i64 x334, .int .i64 x335] 23 (0, 0))]] (FM.le.refl _) HS364) (fun _ => St.only [] HS364 (FM.le.refl _)) (fun _ => St.only [[(b13, .cells #[.int .i64 x330, .int .i64 x331, .int .i64 x332] 23 (0, 0))]] HS364 (FM.le.refl _))) (fun w_ hw_ => by obtain ⟨g_, hl_, hS_⟩ := hw_.seg (j := 2) (s := [(b9, .cells #[.int .i64 x333, .int .i64 x334, .int .i64 x335] 23 (0, 0))]) (by simp) (by simp); exact run_loadN (n := 3) rfl Try.underlying23 rfl (by kernel_rfl) (by kernel_rfl : _ = Value.pointer (some ⟨b9, 0, none⟩)) (cs := [.int .i64 x333, .int .i64 x334, .int .i64 x335]) rfl (hS_.cells 0 3 _ rfl)) ?_
              refine takeGQ 1 [3] rfl (by kernel_rfl) (by kernel_rfl) (by kernel_rfl) (by kernel_rfl) (by kernel_rfl) (by kernel_rfl) hnp (Sg.g2 (Sx.of [[(b13, .cells #[.int .i64 x330, .int .i64 x331, .int .i64 x332] 23 (0, 0))], [(b9, .cells #[.int .i64 x333, .int .i64 x334, .int .i64 x335] 23 (0, 0))]] (FM.le.refl _) HS364) (fun _ => St.only [] HS364 (FM.le.refl _)) (fun _ => St.only [[(b13, .cells #[.int .i64 x330, .int .i64 x331, .int .i64 x332] 23 (0, 0))]] HS364 (FM.le.refl _))) (fun w_ hw_ => by obtain ⟨g_, hl_, hS_⟩ := hw_.seg (j := 3) (s := [(b13, .cells #[.int .i64 x330, .int .i64 x331, .int .i64 x332] 23 (0, 0))]) (by simp) (by simp); exact run_loadN (n := 3) rfl Try.underlying23 rfl (by kernel_rfl) (by kernel_rfl : _ = Value.pointer (some ⟨b13, 0, none⟩)) (cs := [.int .i64 x330, .int .i64 x331, .int .i64 x332]) rfl (hS_.cells 0 3 _ rfl)) ?_
              have HS365 := HS364.u1
              refine takeGE 2 (by kernel_rfl) rfl (by kernel_rfl) (does_store (n := 3) (vs := [.int .i64 x333, .int .i64 x334, .int .i64 x335]) (cs' := #[.int .i64 x333, .int .i64 x334, .int .i64 x335]) rfl (by kernel_rfl) (by kernel_rfl : _ = Value.pointer (some ⟨b9, 0, none⟩)) (by kernel_rfl : _ = Value.agg #[.int .i64 x333, .int .i64 x334, .int .i64 x335]) rfl rfl (by intro u_ hu_; simp only [List.mem_cons, List.not_mem_nil, or_false] at hu_; rcases hu_ with rfl | rfl | rfl <;> rfl) HS365 (Nat.le_of_ble_eq_true rfl) (by kernel_rfl) ?_)
              intro W366 HS367
              refine ⟨(Sg.g2 (Sx.of [[(b9, .cells #[.int .i64 x333, .int .i64 x334, .int .i64 x335] 23 (0, 0))], [(b13, .cells #[.int .i64 x330, .int .i64 x331, .int .i64 x332] 23 (0, 0))]] (FM.le.refl _) HS367) (fun _ => St.only [[(b9, .cells #[.int .i64 x333, .int .i64 x334, .int .i64 x335] 23 (0, 0))]] HS367 (FM.le.refl _)) (fun hl_ => Bool.noConfusion (show true = false from hl_))), ?_⟩
              have HS368 := HS367.u1
              refine takeGE 3 (by kernel_rfl) rfl (by kernel_rfl) (does_store (n := 3) (vs := [.int .i64 x330, .int .i64 x331, .int .i64 x332]) (cs' := #[.int .i64 x330, .int .i64 x331, .int .i64 x332]) rfl (by kernel_rfl) (by kernel_rfl : _ = Value.pointer (some ⟨b13, 0, none⟩)) (by kernel_rfl : _ = Value.agg #[.int .i64 x330, .int .i64 x331, .int .i64 x332]) rfl rfl (by intro u_ hu_; simp only [List.mem_cons, List.not_mem_nil, or_false] at hu_; rcases hu_ with rfl | rfl | rfl <;> rfl) HS368 (Nat.le_of_ble_eq_true rfl) (by kernel_rfl) ?_)
              intro W369 HS370
              refine ⟨(Sg.g2 (Sx.of [[(b13, .cells #[.int .i64 x330, .int .i64 x331, .int .i64 x332] 23 (0, 0))], [(b9, .cells #[.int .i64 x333, .int .i64 x334, .int .i64 x335] 23 (0, 0))]] (FM.le.refl _) HS370) (fun hl_ => Bool.noConfusion (show true = false from hl_)) (fun hl_ => Bool.noConfusion (show true = false from hl_))), ?_⟩
              refine takeG [4] (n := 1) (fuel := 0) (l' := #[true, true, true, true, true]) (a' := ⟨#[.agg #[.int .i64 b1.ID, .int .i64 b1.Was.X, .int .i64 b1.Was.Y, .int .i64 b1.Was.Z, .int .i64 b1.Here.X, .int .i64 b1.Here.Y, .int .i64 b1.Here.Z, .int .i64 b1.Rate], .int .i64 day2, .pointer (some ⟨b5, 0, none⟩), undef, .pointer (some ⟨b9, 0, none⟩), .pointer (some ⟨b13, 0, none⟩), .int .i64 0, (j196 0), (j196 1), (j196 2), (j328 0), (j328 1), (j328 2), .int .i64 day2, .bool false, .bool false, .int .i64 day2, .bool false, .bool false, .bool false, .agg #[.int .i64 b1.ID, .int .i64 b1.Was.X, .int .i64 b1.Was.Y, .int .i64 b1.Was.Z, .int .i64 b1.Here.X, .int .i64 b1.Here.Y, .int .i64 b1.Here.Z, .int .i64 b1.Rate], .bool vt39, .bool false, .bool false, undef, undef, .pointer (some ⟨b5, 1, none⟩), .agg #[.int .i64 b1.Was.X, .int .i64 b1.Was.Y, .int .i64 b1.Was.Z], .pointer (some ⟨b5, 4, none⟩), .agg #[.int .i64 b1.Here.X, .int .i64 b1.Here.Y, .int .i64 b1.Here.Z], .int .i64 day2, (j196 3), (j196 4), (j196 5), (j196 6), (j196 7), (j196 8), (j196 9), (j196 10), (j196 11), (j196 12), (j196 13), (j196 14), (j196 15), (j196 16), (j196 17), (j196 18), (j196 19), .int .i64 day2, (j328 3), (j328 4), (j328 5), (j328 6), (j328 7), (j328 8), (j328 9), (j328 10), (j328 11), (j328 12), (j328 13), (j328 14), (j328 15), (j328 16), (j328 17), (j328 18), (j328 19), .int .i64 e329, .bool false, undef, undef, undef, .agg #[.int .i64 x333, .int .i64 x334, .int .i64 x335], .agg #[.int .i64 x330, .int .i64 x331, .int .i64 x332]], []⟩) rfl (by kernel_rfl) (by kernel_rfl) (by kernel_rfl) hnp (Sg.g2 (Sx.of [[(b13, .cells #[.int .i64 x330, .int .i64 x331, .int .i64 x332] 23 (0, 0))], [(b9, .cells #[.int .i64 x333, .int .i64 x334, .int .i64 x335] 23 (0, 0))]] (FM.le.refl _) HS370) (fun hl_ => Bool.noConfusion (show true = false from hl_)) (fun hl_ => Bool.noConfusion (show true = false from hl_))) ?_
              refine doneG (by kernel_rfl) ?_ _
              refine hK359 _ _ ?_
              refine wp_ret ?_
              refine hret _ _ ?_
              refine ends (v := Value.tuple #[.agg #[.int .i64 x333, .int .i64 x334, .int .i64 x335], .agg #[.int .i64 x330, .int .i64 x331, .int .i64 x332], .int .i64 0]) (results3 (q1 := .cell 4 23) (q2 := .cell 5 23) (q3 := .tmp 6) (by kernel_rfl) (resN (n := 3) (cs := [.int .i64 x333, .int .i64 x334, .int .i64 x335]) (by kernel_rfl : _ = Value.pointer (some ⟨b9, 0, none⟩)) Try.underlying23 rfl (by kernel_rfl) rfl (HS370.u1.cells 0 3 _ rfl)) (resN (n := 3) (cs := [.int .i64 x330, .int .i64 x331, .int .i64 x332]) (by kernel_rfl : _ = Value.pointer (some ⟨b13, 0, none⟩)) Try.underlying23 rfl (by kernel_rfl) rfl (HS370.cells 0 3 _ rfl)) (resT (by kernel_rfl : _ = Value.int .i64 0))) (by kernel_rfl) ?_
              have HS383 := HS370.drop
              have HS384 := HS383.drop
              have HS385 := HS384.drop
              injection h with h
              injection h with h0_ h
              injection h with h1_ h
              subst h0_ h1_ h
              exact ⟨f324, rfl, (L42.trans (L193.trans L325)), HS385⟩
          clear h; have h := hv336; clear hv336
          refine loopK (fun n_ a_ w_ => ∃ (f274 : FM) (e279 : Int) (n280 : Int) (x281 : Int) (x282 : Int) (x283 : Int) (x284 : Int) (x285 : Int) (x286 : Int) (j278 : Nat → Value), FM.le f192 f274 ∧ St t w_ f274 ([(b13, .cells #[.int .i64 x281, .int .i64 x282, .int .i64 x283] 23 (0, 0))] :: [(b9, .cells #[.int .i64 x284, .int .i64 x285, .int .i64 x286] 23 (0, 0))] :: [(b5, .cells #[.int .i64 b1.ID, .int .i64 b1.Was.X, .int .i64 b1.Was.Y, .int .i64 b1.Was.Z, .int .i64 b1.Here.X, .int .i64 b1.Here.Y, .int .i64 b1.Here.Z, .int .i64 b1.Rate] 36 (0, 0))] :: H) ∧ sky_Path.l1 k n_ e279 n280 x281 x282 x283 x284 x285 x286 = some o270 ∧ a_ = ⟨#[.agg #[.int .i64 b1.ID, .int .i64 b1.Was.X, .int .i64 b1.Was.Y, .int .i64 b1.Was.Z, .int .i64 b1.Here.X, .int .i64 b1.Here.Y, .int .i64 b1.Here.Z, .int .i64 b1.Rate], .int .i64 day2, .pointer (some ⟨b5, 0, none⟩), undef, .pointer (some ⟨b9, 0, none⟩), .pointer (some ⟨b13, 0, none⟩), .int .i64 e279, (j196 0), (j196 1), (j196 2), .int .i64 n280, (j278 0), (j278 1), .int .i64 day2, .bool false, .bool false, .int .i64 day2, .bool false, .bool false, .bool false, .agg #[.int .i64 b1.ID, .int .i64 b1.Was.X, .int .i64 b1.Was.Y, .int .i64 b1.Was.Z, .int .i64 b1.Here.X, .int .i64 b1.Here.Y, .int .i64 b1.Here.Z, .int .i64 b1.Rate], .bool vt39, .bool false, .bool false, undef, undef, .pointer (some ⟨b5, 1, none⟩), .agg #[.int .i64 b1.Was.X, .int .i64 b1.Was.Y, .int .i64 b1.Was.Z], .pointer (some ⟨b5, 4, none⟩), .agg #[.int .i64 b1.Here.X, .int .i64 b1.Here.Y, .int .i64 b1.Here.Z], .int .i64 day2, (j196 3), (j196 4), (j196 5), (j196 6), (j196 7), (j196 8), (j196 9), (j196 10), (j196 11), (j196 12), (j196 13), (j196 14), (j196 15), (j196 16), (j196 17), (j196 18), (j196 19), .int .i64 day2, (j278 2), (j278 3), (j278 4), (j278 5), (j278 6), (j278 7), (j278 8), (j278 9), (j278 10), (j278 11), (j278 12), (j278 13), (j278 14), (j278 15), (j278 16), (j278 17), (j278 18), undef, undef, undef, undef, undef, undef, undef], []⟩) k ⟨f192, e197, day2, x198, x199, x200, x201, x202, x203, (fun i_ => [undef, undef, undef, undef, undef, undef, undef, undef, undef, undef, undef, undef, undef, undef, undef, undef, undef, undef, undef].getD i_ undef), (FM.le.refl _), HS195, h, (by kernel_rfl)⟩ ?_
          clear h
          rintro n273 _ W276 ⟨f274, e279, n280, x281, x282, x283, x284, x285, x286, j278, L275, HS277, h, rfl⟩ K271 hK272
          obtain _ | n273 := n273
          · exact nomatch h
          simp only [sky_Path.l1] at h
          refine wp_seq_k (fun K287 hK288 => ?_)
          refine wp_seq_k (fun K289 hK290 => ?_)
          refine wp_region_lit ?_
          refine seqS3 (a' := ⟨#[.agg #[.int .i64 b1.ID, .int .i64 b1.Was.X, .int .i64 b1.Was.Y, .int .i64 b1.Was.Z, .int .i64 b1.Here.X, .int .i64 b1.Here.Y, .int .i64 b1.Here.Z, .int .i64 b1.Rate], .int .i64 day2, .pointer (some ⟨b5, 0, none⟩), undef, .pointer (some ⟨b9, 0, none⟩), .pointer (some ⟨b13, 0, none⟩), .int .i64 e279, (j196 0), (j196 1), (j196 2), .int .i64 n280, (j278 0), (j278 1), .int .i64 day2, .bool false, .bool false, .int .i64 day2, .bool false, .bool false, .bool false, .agg #[.int .i64 b1.ID, .int .i64 b1.Was.X, .int .i64 b1.Was.Y, .int .i64 b1.Was.Z, .int .i64 b1.Here.X, .int .i64 b1.Here.Y, .int .i64 b1.Here.Z, .int .i64 b1.Rate], .bool vt39, .bool false, .bool false, undef, undef, .pointer (some ⟨b5, 1, none⟩), .agg #[.int .i64 b1.Was.X, .int .i64 b1.Was.Y, .int .i64 b1.Was.Z], .pointer (some ⟨b5, 4, none⟩), .agg #[.int .i64 b1.Here.X, .int .i64 b1.Here.Y, .int .i64 b1.Here.Z], .int .i64 day2, (j196 3), (j196 4), (j196 5), (j196 6), (j196 7), (j196 8), (j196 9), (j196 10), (j196 11), (j196 12), (j196 13), (j196 14), (j196 15), (j196 16), (j196 17), (j196 18), (j196 19), .int .i64 day2, .int .i64 n280, .bool (decide (n280 < 0)), .bool (decide (n280 < 0)), (j278 5), (j278 6), (j278 7), (j278 8), (j278 9), (j278 10), (j278 11), (j278 12), (j278 13), (j278 14), (j278 15), (j278 16), (j278 17), (j278 18), undef, undef, undef, undef, undef, undef, undef], []⟩) (by kernel_rfl) ?_
          have hq_ := ite_some h; clear h; rcases hq_ with ⟨c291, h⟩ | ⟨c291, h⟩
          · have c291 : n280 < 0 := c291
            refine seqRwI 50 (x := (decide (n280 < 0))) (v := true) (by kernel_rfl) (decide_eq_true c291) ?_
            refine seqRwI 51 (x := (decide (n280 < 0))) (v := true) (by kernel_rfl) (decide_eq_true c291) ?_
            refine seqS3 (a' := ⟨#[.agg #[.int .i64 b1.ID, .int .i64 b1.Was.X, .int .i64 b1.Was.Y, .int .i64 b1.Was.Z, .int .i64 b1.Here.X, .int .i64 b1.Here.Y, .int .i64 b1.Here.Z, .int .i64 b1.Rate], .int .i64 day2, .pointer (some ⟨b5, 0, none⟩), undef, .pointer (some ⟨b9, 0, none⟩), .pointer (some ⟨b13, 0, none⟩), .int .i64 e279, (j196 0), (j196 1), (j196 2), .int .i64 n280, (j278 0), (j278 1), .int .i64 day2, .bool false, .bool false, .int .i64 day2, .bool false, .bool false, .bool false, .agg #[.int .i64 b1.ID, .int .i64 b1.Was.X, .int .i64 b1.Was.Y, .int .i64 b1.Was.Z, .int .i64 b1.Here.X, .int .i64 b1.Here.Y, .int .i64 b1.Here.Z, .int .i64 b1.Rate], .bool vt39, .bool false, .bool false, undef, undef, .pointer (some ⟨b5, 1, none⟩), .agg #[.int .i64 b1.Was.X, .int .i64 b1.Was.Y, .int .i64 b1.Was.Z], .pointer (some ⟨b5, 4, none⟩), .agg #[.int .i64 b1.Here.X, .int .i64 b1.Here.Y, .int .i64 b1.Here.Z], .int .i64 day2, (j196 3), (j196 4), (j196 5), (j196 6), (j196 7), (j196 8), (j196 9), (j196 10), (j196 11), (j196 12), (j196 13), (j196 14), (j196 15), (j196 16), (j196 17), (j196 18), (j196 19), .int .i64 day2, .int .i64 n280, .bool true, .bool true, .int .i64 e279, .bool (e279 == 0), .bool (e279 == 0), (j278 8), (j278 9), (j278 10), (j278 11), (j278 12), (j278 13), (j278 14), (j278 15), (j278 16), (j278 17), (j278 18), undef, undef, undef, undef, undef, undef, undef], []⟩) (by kernel_rfl) ?_
            refine wpList_nil ?_
            refine hK290 _ _ ?_
            have hq_ := ite_some h; clear h; rcases hq_ with ⟨c293, h⟩ | ⟨c293, h⟩
            · have c293 : e279 = 0 := c293
              refine wpRwI 53 (x := (e279 == 0)) (v := true) (by kernel_rfl) (beq_iff_eq.mpr c293) ?_
              refine wpRwI 54 (x := (e279 == 0)) (v := true) (by kernel_rfl) (beq_iff_eq.mpr c293) ?_
              refine condT (by kernel_rfl) ?_
              refine wp_skip ?_
              refine hK288 _ _ ?_
              refine wp_seq_k (fun K294 hK295 => ?_)
              refine blockK (fun B296 hx297 hn298 hr299 ho300 hp301 => ?_)
              refine wp_seq_k (fun K303 hK304 => ?_)
              refine wp_region_lit ?_
              refine seqK rfl (does_run (run_loadN (n := 3) rfl Try.underlying23 rfl (by kernel_rfl) (by kernel_rfl : _ = Value.pointer (some ⟨b13, 0, none⟩)) (cs := [.int .i64 x281, .int .i64 x282, .int .i64 x283]) rfl (HS277.cells 0 3 _ rfl)) ?_)
              refine seqK rfl (does_run (run_loadN (n := 3) rfl Try.underlying23 rfl (by kernel_rfl) (by kernel_rfl : _ = Value.pointer (some ⟨b9, 0, none⟩)) (cs := [.int .i64 x284, .int .i64 x285, .int .i64 x286]) rfl (HS277.u1.cells 0 3 _ rfl)) ?_)
              have hq_ := bind_some h; clear h; obtain ⟨⟨vt305, vt306⟩, hc307, h⟩ := hq_
              refine seqK rfl (does_call (f := 8) (args := #[.agg #[.int .i64 x281, .int .i64 x282, .int .i64 x283], .agg #[.int .i64 x284, .int .i64 x285, .int .i64 x286]]) (by kernel_rfl) (sky_Step.calls k (⟨x281, x282, x283⟩ : S_Vec) (⟨x284, x285, x286⟩ : S_Vec) HS277 vt305 vt306 hc307) ?_)
              rintro _ W310 ⟨f308, rfl, L309, HS311⟩
              refine ⟨_, rfl, ?_⟩
              refine seqL3 (by kernel_rfl) ?_
              refine seqK rfl (does_alloc (z := Value.agg #[.int .i64 0, .int .i64 0, .int .i64 0]) (cs := #[.int .i64 0, .int .i64 0, .int .i64 0]) rfl (by kernel_rfl) rfl HS311 ?_)
              intro b312 W313 HS314
              refine seqK rfl (does_store (n := 3) (vs := [.int .i64 vt305.X, .int .i64 vt305.Y, .int .i64 vt305.Z]) (cs' := #[.int .i64 vt305.X, .int .i64 vt305.Y, .int .i64 vt305.Z]) rfl (by kernel_rfl) (by kernel_rfl : _ = Value.pointer (some ⟨b312, 0, none⟩)) (by kernel_rfl : _ = Value.agg #[.int .i64 vt305.X, .int .i64 vt305.Y, .int .i64 vt305.Z]) rfl rfl (by intro u_ hu_; simp only [List.mem_cons, List.not_mem_nil, or_false] at hu_; rcases hu_ with rfl | rfl | rfl <;> rfl) HS314 (Nat.le_of_ble_eq_true rfl) (by kernel_rfl) ?_)
              intro W316 HS317
              refine seqS1 (a' := ⟨#[.agg #[.int .i64 b1.ID, .int .i64 b1.Was.X, .int .i64 b1.Was.Y, .int .i64 b1.Was.Z, .int .i64 b1.Here.X, .int .i64 b1.Here.Y, .int .i64 b1.Here.Z, .int .i64 b1.Rate], .int .i64 day2, .pointer (some ⟨b5, 0, none⟩), undef, .pointer (some ⟨b9, 0, none⟩), .pointer (some ⟨b13, 0, none⟩), .int .i64 e279, (j196 0), (j196 1), (j196 2), .int .i64 n280, .pointer (some ⟨b312, 0, none⟩), .int .i64 vt306, .int .i64 day2, .bool false, .bool false, .int .i64 day2, .bool false, .bool false, .bool false, .agg #[.int .i64 b1.ID, .int .i64 b1.Was.X, .int .i64 b1.Was.Y, .int .i64 b1.Was.Z, .int .i64 b1.Here.X, .int .i64 b1.Here.Y, .int .i64 b1.Here.Z, .int .i64 b1.Rate], .bool vt39, .bool false, .bool false, undef, undef, .pointer (some ⟨b5, 1, none⟩), .agg #[.int .i64 b1.Was.X, .int .i64 b1.Was.Y, .int .i64 b1.Was.Z], .pointer (some ⟨b5, 4, none⟩), .agg #[.int .i64 b1.Here.X, .int .i64 b1.Here.Y, .int .i64 b1.Here.Z], .int .i64 day2, (j196 3), (j196 4), (j196 5), (j196 6), (j196 7), (j196 8), (j196 9), (j196 10), (j196 11), (j196 12), (j196 13), (j196 14), (j196 15), (j196 16), (j196 17), (j196 18), (j196 19), .int .i64 day2, .int .i64 n280, .bool true, .bool true, .int .i64 e279, .bool true, .bool true, (j278 8), (j278 9), .tuple #[.agg #[.int .i64 vt305.X, .int .i64 vt305.Y, .int .i64 vt305.Z], .int .i64 vt306], .agg #[.int .i64 x281, .int .i64 x282, .int .i64 x283], .agg #[.int .i64 x284, .int .i64 x285, .int .i64 x286], .tuple #[.agg #[.int .i64 vt305.X, .int .i64 vt305.Y, .int .i64 vt305.Z], .int .i64 vt306], .agg #[.int .i64 vt305.X, .int .i64 vt305.Y, .int .i64 vt305.Z], .int .i64 vt306, (j278 16), (j278 17), (j278 18), undef, undef, undef, undef, undef, undef, undef], []⟩) (by kernel_rfl) ?_
              refine wpList_nil ?_
              refine hK304 _ _ ?_
              refine wp_region_lit ?_
              refine seqK rfl (does_run (run_loadN (n := 3) rfl Try.underlying23 rfl (by kernel_rfl) (by kernel_rfl : _ = Value.pointer (some ⟨b312, 0, none⟩)) (cs := [.int .i64 vt305.X, .int .i64 vt305.Y, .int .i64 vt305.Z]) rfl (HS317.cells 0 3 _ rfl)) ?_)
              refine seqK rfl (does_run (run_loadN (n := 3) rfl Try.underlying23 rfl (by kernel_rfl) (by kernel_rfl : _ = Value.pointer (some ⟨b9, 0, none⟩)) (cs := [.int .i64 x284, .int .i64 x285, .int .i64 x286]) rfl (HS317.u2.cells 0 3 _ rfl)) ?_)
              have HS318 := HS317.u2
              refine seqL1 (by kernel_rfl) ?_
              refine seqK rfl (does_store (n := 3) (vs := [.int .i64 vt305.X, .int .i64 vt305.Y, .int .i64 vt305.Z]) (cs' := #[.int .i64 vt305.X, .int .i64 vt305.Y, .int .i64 vt305.Z]) rfl (by kernel_rfl) (by kernel_rfl : _ = Value.pointer (some ⟨b9, 0, none⟩)) (by kernel_rfl : _ = Value.agg #[.int .i64 vt305.X, .int .i64 vt305.Y, .int .i64 vt305.Z]) rfl rfl (by intro u_ hu_; simp only [List.mem_cons, List.not_mem_nil, or_false] at hu_; rcases hu_ with rfl | rfl | rfl <;> rfl) HS318 (Nat.le_of_ble_eq_true rfl) (by kernel_rfl) ?_)
              intro W319 HS320
              have HS321 := HS320.u2
              refine seqK rfl (does_store (n := 3) (vs := [.int .i64 x284, .int .i64 x285, .int .i64 x286]) (cs' := #[.int .i64 x284, .int .i64 x285, .int .i64 x286]) rfl (by kernel_rfl) (by kernel_rfl : _ = Value.pointer (some ⟨b13, 0, none⟩)) (by kernel_rfl : _ = Value.agg #[.int .i64 x284, .int .i64 x285, .int .i64 x286]) rfl rfl (by intro u_ hu_; simp only [List.mem_cons, List.not_mem_nil, or_false] at hu_; rcases hu_ with rfl | rfl | rfl <;> rfl) HS321 (Nat.le_of_ble_eq_true rfl) (by kernel_rfl) ?_)
              intro W322 HS323
              refine seqS1 (a' := ⟨#[.agg #[.int .i64 b1.ID, .int .i64 b1.Was.X, .int .i64 b1.Was.Y, .int .i64 b1.Was.Z, .int .i64 b1.Here.X, .int .i64 b1.Here.Y, .int .i64 b1.Here.Z, .int .i64 b1.Rate], .int .i64 day2, .pointer (some ⟨b5, 0, none⟩), undef, .pointer (some ⟨b9, 0, none⟩), .pointer (some ⟨b13, 0, none⟩), .int .i64 vt306, (j196 0), (j196 1), (j196 2), .int .i64 n280, .pointer (some ⟨b312, 0, none⟩), .int .i64 vt306, .int .i64 day2, .bool false, .bool false, .int .i64 day2, .bool false, .bool false, .bool false, .agg #[.int .i64 b1.ID, .int .i64 b1.Was.X, .int .i64 b1.Was.Y, .int .i64 b1.Was.Z, .int .i64 b1.Here.X, .int .i64 b1.Here.Y, .int .i64 b1.Here.Z, .int .i64 b1.Rate], .bool vt39, .bool false, .bool false, undef, undef, .pointer (some ⟨b5, 1, none⟩), .agg #[.int .i64 b1.Was.X, .int .i64 b1.Was.Y, .int .i64 b1.Was.Z], .pointer (some ⟨b5, 4, none⟩), .agg #[.int .i64 b1.Here.X, .int .i64 b1.Here.Y, .int .i64 b1.Here.Z], .int .i64 day2, (j196 3), (j196 4), (j196 5), (j196 6), (j196 7), (j196 8), (j196 9), (j196 10), (j196 11), (j196 12), (j196 13), (j196 14), (j196 15), (j196 16), (j196 17), (j196 18), (j196 19), .int .i64 day2, .int .i64 n280, .bool true, .bool true, .int .i64 e279, .bool true, .bool true, (j278 8), (j278 9), .tuple #[.agg #[.int .i64 vt305.X, .int .i64 vt305.Y, .int .i64 vt305.Z], .int .i64 vt306], .agg #[.int .i64 x281, .int .i64 x282, .int .i64 x283], .agg #[.int .i64 x284, .int .i64 x285, .int .i64 x286], .tuple #[.agg #[.int .i64 vt305.X, .int .i64 vt305.Y, .int .i64 vt305.Z], .int .i64 vt306], .agg #[.int .i64 vt305.X, .int .i64 vt305.Y, .int .i64 vt305.Z], .int .i64 vt306, .agg #[.int .i64 vt305.X, .int .i64 vt305.Y, .int .i64 vt305.Z], .agg #[.int .i64 x284, .int .i64 x285, .int .i64 x286], .int .i64 vt306, undef, undef, undef, undef, undef, undef, undef], []⟩) (by kernel_rfl) ?_
              refine wpList_nil ?_
              refine hn298 _ _ ?_
              refine hK295 _ _ ?_
              refine wp_region_lit ?_
              refine seqS3 (a' := ⟨#[.agg #[.int .i64 b1.ID, .int .i64 b1.Was.X, .int .i64 b1.Was.Y, .int .i64 b1.Was.Z, .int .i64 b1.Here.X, .int .i64 b1.Here.Y, .int .i64 b1.Here.Z, .int .i64 b1.Rate], .int .i64 day2, .pointer (some ⟨b5, 0, none⟩), undef, .pointer (some ⟨b9, 0, none⟩), .pointer (some ⟨b13, 0, none⟩), .int .i64 vt306, (j196 0), (j196 1), (j196 2), .int .i64 (w64 (n280 + 1)), .pointer (some ⟨b312, 0, none⟩), .int .i64 vt306, .int .i64 day2, .bool false, .bool false, .int .i64 day2, .bool false, .bool false, .bool false, .agg #[.int .i64 b1.ID, .int .i64 b1.Was.X, .int .i64 b1.Was.Y, .int .i64 b1.Was.Z, .int .i64 b1.Here.X, .int .i64 b1.Here.Y, .int .i64 b1.Here.Z, .int .i64 b1.Rate], .bool vt39, .bool false, .bool false, undef, undef, .pointer (some ⟨b5, 1, none⟩), .agg #[.int .i64 b1.Was.X, .int .i64 b1.Was.Y, .int .i64 b1.Was.Z], .pointer (some ⟨b5, 4, none⟩), .agg #[.int .i64 b1.Here.X, .int .i64 b1.Here.Y, .int .i64 b1.Here.Z], .int .i64 day2, (j196 3), (j196 4), (j196 5), (j196 6), (j196 7), (j196 8), (j196 9), (j196 10), (j196 11), (j196 12), (j196 13), (j196 14), (j196 15), (j196 16), (j196 17), (j196 18), (j196 19), .int .i64 day2, .int .i64 n280, .bool true, .bool true, .int .i64 e279, .bool true, .bool true, .int .i64 n280, .int .i64 (w64 (n280 + 1)), .tuple #[.agg #[.int .i64 vt305.X, .int .i64 vt305.Y, .int .i64 vt305.Z], .int .i64 vt306], .agg #[.int .i64 x281, .int .i64 x282, .int .i64 x283], .agg #[.int .i64 x284, .int .i64 x285, .int .i64 x286], .tuple #[.agg #[.int .i64 vt305.X, .int .i64 vt305.Y, .int .i64 vt305.Z], .int .i64 vt306], .agg #[.int .i64 vt305.X, .int .i64 vt305.Y, .int .i64 vt305.Z], .int .i64 vt306, .agg #[.int .i64 vt305.X, .int .i64 vt305.Y, .int .i64 vt305.Z], .agg #[.int .i64 x284, .int .i64 x285, .int .i64 x286], .int .i64 vt306, undef, undef, undef, undef, undef, undef, undef], []⟩) (by kernel_rfl) ?_
              refine wpList_nil ?_
              refine hK272 n273 _ _ (Nat.lt_succ_self _) ?_
              have HS339 := HS323.u3
              have HS340 := HS339.u2
              have HS341 := HS340.u2
              have HS342 := HS341.u3
              have HS343 := HS342.drop
              exact ⟨f308, vt306, (w64 (n280 + 1)), x284, x285, x286, vt305.X, vt305.Y, vt305.Z, (fun i_ => [Value.pointer (some ⟨b312, 0, none⟩), Value.int .i64 vt306, Value.int .i64 n280, Value.bool true, Value.bool true, Value.int .i64 e279, Value.bool true, Value.bool true, Value.int .i64 n280, Value.int .i64 (w64 (n280 + 1)), Value.tuple #[.agg #[.int .i64 vt305.X, .int .i64 vt305.Y, .int .i64 vt305.Z], .int .i64 vt306], Value.agg #[.int .i64 x281, .int .i64 x282, .int .i64 x283], Value.agg #[.int .i64 x284, .int .i64 x285, .int .i64 x286], Value.tuple #[.agg #[.int .i64 vt305.X, .int .i64 vt305.Y, .int .i64 vt305.Z], .int .i64 vt306], Value.agg #[.int .i64 vt305.X, .int .i64 vt305.Y, .int .i64 vt305.Z], Value.int .i64 vt306, Value.agg #[.int .i64 vt305.X, .int .i64 vt305.Y, .int .i64 vt305.Z], Value.agg #[.int .i64 x284, .int .i64 x285, .int .i64 x286], Value.int .i64 vt306].getD i_ undef), (L275.trans L309), HS343, h, (by kernel_rfl)⟩
            · have c293 : ¬ (e279 = 0) := c293
              refine wpRwI 53 (x := (e279 == 0)) (v := false) (by kernel_rfl) (beq_eq_false_iff_ne.mpr c293) ?_
              refine wpRwI 54 (x := (e279 == 0)) (v := false) (by kernel_rfl) (beq_eq_false_iff_ne.mpr c293) ?_
              refine condF (by kernel_rfl) ?_
              refine wp_exit ?_
              refine hx217 _ _ ?_
              exact J337 f274 e279 x281 x282 x283 x284 x285 x286 (fun i_ => [Value.int .i64 n280, (j278 0), (j278 1), Value.int .i64 n280, Value.bool true, Value.bool true, Value.int .i64 e279, Value.bool false, Value.bool false, (j278 8), (j278 9), (j278 10), (j278 11), (j278 12), (j278 13), (j278 14), (j278 15), (j278 16), (j278 17), (j278 18)].getD i_ undef) W276 _ L275 h HS277 (by kernel_rfl)
          · have c291 : ¬ (n280 < 0) := c291
            refine seqRwI 50 (x := (decide (n280 < 0))) (v := false) (by kernel_rfl) (decide_eq_false c291) ?_
            refine seqRwI 51 (x := (decide (n280 < 0))) (v := false) (by kernel_rfl) (decide_eq_false c291) ?_
            refine seqS3 (a' := ⟨#[.agg #[.int .i64 b1.ID, .int .i64 b1.Was.X, .int .i64 b1.Was.Y, .int .i64 b1.Was.Z, .int .i64 b1.Here.X, .int .i64 b1.Here.Y, .int .i64 b1.Here.Z, .int .i64 b1.Rate], .int .i64 day2, .pointer (some ⟨b5, 0, none⟩), undef, .pointer (some ⟨b9, 0, none⟩), .pointer (some ⟨b13, 0, none⟩), .int .i64 e279, (j196 0), (j196 1), (j196 2), .int .i64 n280, (j278 0), (j278 1), .int .i64 day2, .bool false, .bool false, .int .i64 day2, .bool false, .bool false, .bool false, .agg #[.int .i64 b1.ID, .int .i64 b1.Was.X, .int .i64 b1.Was.Y, .int .i64 b1.Was.Z, .int .i64 b1.Here.X, .int .i64 b1.Here.Y, .int .i64 b1.Here.Z, .int .i64 b1.Rate], .bool vt39, .bool false, .bool false, undef, undef, .pointer (some ⟨b5, 1, none⟩), .agg #[.int .i64 b1.Was.X, .int .i64 b1.Was.Y, .int .i64 b1.Was.Z], .pointer (some ⟨b5, 4, none⟩), .agg #[.int .i64 b1.Here.X, .int .i64 b1.Here.Y, .int .i64 b1.Here.Z], .int .i64 day2, (j196 3), (j196 4), (j196 5), (j196 6), (j196 7), (j196 8), (j196 9), (j196 10), (j196 11), (j196 12), (j196 13), (j196 14), (j196 15), (j196 16), (j196 17), (j196 18), (j196 19), .int .i64 day2, .int .i64 n280, .bool false, .bool false, undef, undef, .bool false, (j278 8), (j278 9), (j278 10), (j278 11), (j278 12), (j278 13), (j278 14), (j278 15), (j278 16), (j278 17), (j278 18), undef, undef, undef, undef, undef, undef, undef], []⟩) (by kernel_rfl) ?_
            refine wpList_nil ?_
            refine hK290 _ _ ?_
            refine condF (by kernel_rfl) ?_
            refine wp_exit ?_
            refine hx217 _ _ ?_
            exact J337 f274 e279 x281 x282 x283 x284 x285 x286 (fun i_ => [Value.int .i64 n280, (j278 0), (j278 1), Value.int .i64 n280, Value.bool false, Value.bool false, undef, undef, Value.bool false, (j278 8), (j278 9), (j278 10), (j278 11), (j278 12), (j278 13), (j278 14), (j278 15), (j278 16), (j278 17), (j278 18)].getD i_ undef) W276 _ L275 h HS277 (by kernel_rfl)
        clear h; have h := hv204; clear hv204
        refine loopK (fun n_ a_ w_ => ∃ (f136 : FM) (e141 : Int) (n142 : Int) (x143 : Int) (x144 : Int) (x145 : Int) (x146 : Int) (x147 : Int) (x148 : Int) (j140 : Nat → Value), FM.le f41 f136 ∧ St t w_ f136 ([(b13, .cells #[.int .i64 x143, .int .i64 x144, .int .i64 x145] 23 (0, 0))] :: [(b9, .cells #[.int .i64 x146, .int .i64 x147, .int .i64 x148] 23 (0, 0))] :: [(b5, .cells #[.int .i64 b1.ID, .int .i64 b1.Was.X, .int .i64 b1.Was.Y, .int .i64 b1.Was.Z, .int .i64 b1.Here.X, .int .i64 b1.Here.Y, .int .i64 b1.Here.Z, .int .i64 b1.Rate] 36 (0, 0))] :: H) ∧ sky_Path.l0 k n_ e141 n142 x143 x144 x145 x146 x147 x148 = some o132 ∧ a_ = ⟨#[.agg #[.int .i64 b1.ID, .int .i64 b1.Was.X, .int .i64 b1.Was.Y, .int .i64 b1.Was.Z, .int .i64 b1.Here.X, .int .i64 b1.Here.Y, .int .i64 b1.Here.Z, .int .i64 b1.Rate], .int .i64 day2, .pointer (some ⟨b5, 0, none⟩), undef, .pointer (some ⟨b9, 0, none⟩), .pointer (some ⟨b13, 0, none⟩), .int .i64 e141, .int .i64 n142, (j140 0), (j140 1), undef, undef, undef, .int .i64 day2, .bool false, .bool false, .int .i64 day2, .bool false, .bool false, .bool false, .agg #[.int .i64 b1.ID, .int .i64 b1.Was.X, .int .i64 b1.Was.Y, .int .i64 b1.Was.Z, .int .i64 b1.Here.X, .int .i64 b1.Here.Y, .int .i64 b1.Here.Z, .int .i64 b1.Rate], .bool vt39, .bool false, .bool false, undef, undef, .pointer (some ⟨b5, 1, none⟩), .agg #[.int .i64 b1.Was.X, .int .i64 b1.Was.Y, .int .i64 b1.Was.Z], .pointer (some ⟨b5, 4, none⟩), .agg #[.int .i64 b1.Here.X, .int .i64 b1.Here.Y, .int .i64 b1.Here.Z], .int .i64 day2, (j140 2), (j140 3), (j140 4), (j140 5), (j140 6), (j140 7), (j140 8), (j140 9), (j140 10), (j140 11), (j140 12), (j140 13), (j140 14), (j140 15), (j140 16), (j140 17), (j140 18), undef, undef, undef, undef, undef, undef, undef, undef, undef, undef, undef, undef, undef, undef, undef, undef, undef, undef, undef, undef, undef, undef, undef, undef, undef], []⟩) k ⟨f41, 0, day2, b1.Here.X, b1.Here.Y, b1.Here.Z, b1.Was.X, b1.Was.Y, b1.Was.Z, (fun i_ => [undef, undef, undef, undef, undef, undef, undef, undef, undef, undef, undef, undef, undef, undef, undef, undef, undef, undef, undef].getD i_ undef), (FM.le.refl _), HS67, h, (by kernel_rfl)⟩ ?_
        clear h
        rintro n135 _ W138 ⟨f136, e141, n142, x143, x144, x145, x146, x147, x148, j140, L137, HS139, h, rfl⟩ K133 hK134
        obtain _ | n135 := n135
        · exact nomatch h
        simp only [sky_Path.l0] at h
        refine wp_seq_k (fun K149 hK150 => ?_)
        refine wp_seq_k (fun K151 hK152 => ?_)
        refine wp_region_lit ?_
        refine seqS3 (a' := ⟨#[.agg #[.int .i64 b1.ID, .int .i64 b1.Was.X, .int .i64 b1.Was.Y, .int .i64 b1.Was.Z, .int .i64 b1.Here.X, .int .i64 b1.Here.Y, .int .i64 b1.Here.Z, .int .i64 b1.Rate], .int .i64 day2, .pointer (some ⟨b5, 0, none⟩), undef, .pointer (some ⟨b9, 0, none⟩), .pointer (some ⟨b13, 0, none⟩), .int .i64 e141, .int .i64 n142, (j140 0), (j140 1), undef, undef, undef, .int .i64 day2, .bool false, .bool false, .int .i64 day2, .bool false, .bool false, .bool false, .agg #[.int .i64 b1.ID, .int .i64 b1.Was.X, .int .i64 b1.Was.Y, .int .i64 b1.Was.Z, .int .i64 b1.Here.X, .int .i64 b1.Here.Y, .int .i64 b1.Here.Z, .int .i64 b1.Rate], .bool vt39, .bool false, .bool false, undef, undef, .pointer (some ⟨b5, 1, none⟩), .agg #[.int .i64 b1.Was.X, .int .i64 b1.Was.Y, .int .i64 b1.Was.Z], .pointer (some ⟨b5, 4, none⟩), .agg #[.int .i64 b1.Here.X, .int .i64 b1.Here.Y, .int .i64 b1.Here.Z], .int .i64 day2, .int .i64 n142, .bool (decide (n142 > 0)), .bool (decide (n142 > 0)), (j140 5), (j140 6), (j140 7), (j140 8), (j140 9), (j140 10), (j140 11), (j140 12), (j140 13), (j140 14), (j140 15), (j140 16), (j140 17), (j140 18), undef, undef, undef, undef, undef, undef, undef, undef, undef, undef, undef, undef, undef, undef, undef, undef, undef, undef, undef, undef, undef, undef, undef, undef, undef], []⟩) (by kernel_rfl) ?_
        have hq_ := ite_some h; clear h; rcases hq_ with ⟨c153, h⟩ | ⟨c153, h⟩
        · have c153 : n142 > 0 := c153
          refine seqRwI 32 (x := (decide (n142 > 0))) (v := true) (by kernel_rfl) (decide_eq_true c153) ?_
          refine seqRwI 33 (x := (decide (n142 > 0))) (v := true) (by kernel_rfl) (decide_eq_true c153) ?_
          refine seqS3 (a' := ⟨#[.agg #[.int .i64 b1.ID, .int .i64 b1.Was.X, .int .i64 b1.Was.Y, .int .i64 b1.Was.Z, .int .i64 b1.Here.X, .int .i64 b1.Here.Y, .int .i64 b1.Here.Z, .int .i64 b1.Rate], .int .i64 day2, .pointer (some ⟨b5, 0, none⟩), undef, .pointer (some ⟨b9, 0, none⟩), .pointer (some ⟨b13, 0, none⟩), .int .i64 e141, .int .i64 n142, (j140 0), (j140 1), undef, undef, undef, .int .i64 day2, .bool false, .bool false, .int .i64 day2, .bool false, .bool false, .bool false, .agg #[.int .i64 b1.ID, .int .i64 b1.Was.X, .int .i64 b1.Was.Y, .int .i64 b1.Was.Z, .int .i64 b1.Here.X, .int .i64 b1.Here.Y, .int .i64 b1.Here.Z, .int .i64 b1.Rate], .bool vt39, .bool false, .bool false, undef, undef, .pointer (some ⟨b5, 1, none⟩), .agg #[.int .i64 b1.Was.X, .int .i64 b1.Was.Y, .int .i64 b1.Was.Z], .pointer (some ⟨b5, 4, none⟩), .agg #[.int .i64 b1.Here.X, .int .i64 b1.Here.Y, .int .i64 b1.Here.Z], .int .i64 day2, .int .i64 n142, .bool true, .bool true, .int .i64 e141, .bool (e141 == 0), .bool (e141 == 0), (j140 8), (j140 9), (j140 10), (j140 11), (j140 12), (j140 13), (j140 14), (j140 15), (j140 16), (j140 17), (j140 18), undef, undef, undef, undef, undef, undef, undef, undef, undef, undef, undef, undef, undef, undef, undef, undef, undef, undef, undef, undef, undef, undef, undef, undef, undef], []⟩) (by kernel_rfl) ?_
          refine wpList_nil ?_
          refine hK152 _ _ ?_
          have hq_ := ite_some h; clear h; rcases hq_ with ⟨c155, h⟩ | ⟨c155, h⟩
          · have c155 : e141 = 0 := c155
            refine wpRwI 35 (x := (e141 == 0)) (v := true) (by kernel_rfl) (beq_iff_eq.mpr c155) ?_
            refine wpRwI 36 (x := (e141 == 0)) (v := true) (by kernel_rfl) (beq_iff_eq.mpr c155) ?_
            refine condT (by kernel_rfl) ?_
            refine wp_skip ?_
            refine hK150 _ _ ?_
            refine wp_seq_k (fun K156 hK157 => ?_)
            refine blockK (fun B158 hx159 hn160 hr161 ho162 hp163 => ?_)
            refine wp_seq_k (fun K165 hK166 => ?_)
            refine wp_region_lit ?_
            refine seqK rfl (does_run (run_loadN (n := 3) rfl Try.underlying23 rfl (by kernel_rfl) (by kernel_rfl : _ = Value.pointer (some ⟨b9, 0, none⟩)) (cs := [.int .i64 x146, .int .i64 x147, .int .i64 x148]) rfl (HS139.u1.cells 0 3 _ rfl)) ?_)
            refine seqK rfl (does_run (run_loadN (n := 3) rfl Try.underlying23 rfl (by kernel_rfl) (by kernel_rfl : _ = Value.pointer (some ⟨b13, 0, none⟩)) (cs := [.int .i64 x143, .int .i64 x144, .int .i64 x145]) rfl (HS139.cells 0 3 _ rfl)) ?_)
            have hq_ := bind_some h; clear h; obtain ⟨⟨vt167, vt168⟩, hc169, h⟩ := hq_
            refine seqK rfl (does_call (f := 8) (args := #[.agg #[.int .i64 x146, .int .i64 x147, .int .i64 x148], .agg #[.int .i64 x143, .int .i64 x144, .int .i64 x145]]) (by kernel_rfl) (sky_Step.calls k (⟨x146, x147, x148⟩ : S_Vec) (⟨x143, x144, x145⟩ : S_Vec) HS139 vt167 vt168 hc169) ?_)
            rintro _ W172 ⟨f170, rfl, L171, HS173⟩
            refine ⟨_, rfl, ?_⟩
            refine seqL3 (by kernel_rfl) ?_
            refine seqK rfl (does_alloc (z := Value.agg #[.int .i64 0, .int .i64 0, .int .i64 0]) (cs := #[.int .i64 0, .int .i64 0, .int .i64 0]) rfl (by kernel_rfl) rfl HS173 ?_)
            intro b174 W175 HS176
            refine seqK rfl (does_store (n := 3) (vs := [.int .i64 vt167.X, .int .i64 vt167.Y, .int .i64 vt167.Z]) (cs' := #[.int .i64 vt167.X, .int .i64 vt167.Y, .int .i64 vt167.Z]) rfl (by kernel_rfl) (by kernel_rfl : _ = Value.pointer (some ⟨b174, 0, none⟩)) (by kernel_rfl : _ = Value.agg #[.int .i64 vt167.X, .int .i64 vt167.Y, .int .i64 vt167.Z]) rfl rfl (by intro u_ hu_; simp only [List.mem_cons, List.not_mem_nil, or_false] at hu_; rcases hu_ with rfl | rfl | rfl <;> rfl) HS176 (Nat.le_of_ble_eq_true rfl) (by kernel_rfl) ?_)
            intro W178 HS179
            refine seqS1 (a' := ⟨#[.agg #[.int .i64 b1.ID, .int .i64 b1.Was.X, .int .i64 b1.Was.Y, .int .i64 b1.Was.Z, .int .i64 b1.Here.X, .int .i64 b1.Here.Y, .int .i64 b1.Here.Z, .int .i64 b1.Rate], .int .i64 day2, .pointer (some ⟨b5, 0, none⟩), undef, .pointer (some ⟨b9, 0, none⟩), .pointer (some ⟨b13, 0, none⟩), .int .i64 e141, .int .i64 n142, .pointer (some ⟨b174, 0, none⟩), .int .i64 vt168, undef, undef, undef, .int .i64 day2, .bool false, .bool false, .int .i64 day2, .bool false, .bool false, .bool false, .agg #[.int .i64 b1.ID, .int .i64 b1.Was.X, .int .i64 b1.Was.Y, .int .i64 b1.Was.Z, .int .i64 b1.Here.X, .int .i64 b1.Here.Y, .int .i64 b1.Here.Z, .int .i64 b1.Rate], .bool vt39, .bool false, .bool false, undef, undef, .pointer (some ⟨b5, 1, none⟩), .agg #[.int .i64 b1.Was.X, .int .i64 b1.Was.Y, .int .i64 b1.Was.Z], .pointer (some ⟨b5, 4, none⟩), .agg #[.int .i64 b1.Here.X, .int .i64 b1.Here.Y, .int .i64 b1.Here.Z], .int .i64 day2, .int .i64 n142, .bool true, .bool true, .int .i64 e141, .bool true, .bool true, (j140 8), (j140 9), .tuple #[.agg #[.int .i64 vt167.X, .int .i64 vt167.Y, .int .i64 vt167.Z], .int .i64 vt168], .agg #[.int .i64 x146, .int .i64 x147, .int .i64 x148], .agg #[.int .i64 x143, .int .i64 x144, .int .i64 x145], .tuple #[.agg #[.int .i64 vt167.X, .int .i64 vt167.Y, .int .i64 vt167.Z], .int .i64 vt168], .agg #[.int .i64 vt167.X, .int .i64 vt167.Y, .int .i64 vt167.Z], .int .i64 vt168, (j140 16), (j140 17), (j140 18), undef, undef, undef, undef, undef, undef, undef, undef, undef, undef, undef, undef, undef, undef, undef, undef, undef, undef, undef, undef, undef, undef, undef, undef, undef], []⟩) (by kernel_rfl) ?_
            refine wpList_nil ?_
            refine hK166 _ _ ?_
            have HS180 := HS179.u3
            have HS181 := HS180.u1
            have HS182 := HS181.u3
            have HS183 := HS182.u3
            refine heldG (S := Sg t f170 ([(b174, .cells #[.int .i64 vt167.X, .int .i64 vt167.Y, .int .i64 vt167.Z] 23 (0, 0))] :: [(b5, .cells #[.int .i64 b1.ID, .int .i64 b1.Was.X, .int .i64 b1.Was.Y, .int .i64 b1.Was.Z, .int .i64 b1.Here.X, .int .i64 b1.Here.Y, .int .i64 b1.Here.Z, .int .i64 b1.Rate] 36 (0, 0))] :: H) [(4, [(b13, .cells #[.int .i64 x143, .int .i64 x144, .int .i64 x145] 23 (0, 0))]), (3, [(b9, .cells #[.int .i64 x146, .int .i64 x147, .int .i64 x148] 23 (0, 0))])]) (n := 6) (by kernel_rfl) rfl HS183 ?_
            intro W184 HS185
            refine takeGQ 0 [4] rfl (by kernel_rfl) (by kernel_rfl) (by kernel_rfl) (by kernel_rfl) (by kernel_rfl) (by kernel_rfl) (fun ch_ a_ w_ q_ => (fun ch_ a_ w_ q_ => hnp ch_ a_ w_ (hp77 ch_ a_ w_ q_)) ch_ a_ w_ (hp163 ch_ a_ w_ q_)) (Sg.g2 (Sx.of [[(b13, .cells #[.int .i64 x143, .int .i64 x144, .int .i64 x145] 23 (0, 0))], [(b9, .cells #[.int .i64 x146, .int .i64 x147, .int .i64 x148] 23 (0, 0))]] (FM.le.refl _) HS185) (fun _ => St.only [] HS185 (FM.le.refl _)) (fun _ => St.only [[(b13, .cells #[.int .i64 x143, .int .i64 x144, .int .i64 x145] 23 (0, 0))]] HS185 (FM.le.refl _))) (fun w_ hw_ => by obtain ⟨g_, hl_, hS_⟩ := hw_.seg (j := 4) (s := [(b13, .cells #[.int .i64 x143, .int .i64 x144, .int .i64 x145] 23 (0, 0))]) (by simp) (by simp); exact run_loadN (n := 3) rfl Try.underlying23 rfl (by kernel_rfl) (by kernel_rfl : _ = Value.pointer (some ⟨b13, 0, none⟩)) (cs := [.int .i64 x143, .int .i64 x144, .int .i64 x145]) rfl (hS_.cells 0 3 _ rfl)) ?_
            refine takeGQ 1 [] rfl (by kernel_rfl) (by kernel_rfl) (by kernel_rfl) (by kernel_rfl) (by kernel_rfl) (by kernel_rfl) (fun ch_ a_ w_ q_ => (fun ch_ a_ w_ q_ => hnp ch_ a_ w_ (hp77 ch_ a_ w_ q_)) ch_ a_ w_ (hp163 ch_ a_ w_ q_)) (Sg.g2 (Sx.of [[(b13, .cells #[.int .i64 x143, .int .i64 x144, .int .i64 x145] 23 (0, 0))], [(b9, .cells #[.int .i64 x146, .int .i64 x147, .int .i64 x148] 23 (0, 0))]] (FM.le.refl _) HS185) (fun _ => St.only [] HS185 (FM.le.refl _)) (fun _ => St.only [[(b13, .cells #[.int .i64 x143, .int .i64 x144, .int .i64 x145] 23 (0, 0))]] HS185 (FM.le.refl _))) (fun w_ hw_ => by obtain ⟨g_, hl_, hS_⟩ := hw_.st; exact run_loadN (n := 3) rfl Try.underlying23 rfl (by kernel_rfl) (by kernel_rfl : _ = Value.pointer (some ⟨b174, 0, none⟩)) (cs := [.int .i64 vt167.X, .int .i64 vt167.Y, .int .i64 vt167.Z]) rfl (hS_.cells 0 3 _ rfl)) ?_
            refine takeG [2] (n := 4) (fuel := 3) (l' := #[true, true, true, false, false, false]) (a' := ⟨#[.agg #[.int .i64 b1.ID, .int .i64 b1.Was.X, .int .i64 b1.Was.Y, .int .i64 b1.Was.Z, .int .i64 b1.Here.X, .int .i64 b1.Here.Y, .int .i64 b1.Here.Z, .int .i64 b1.Rate], .int .i64 day2, .pointer (some ⟨b5, 0, none⟩), undef, .pointer (some ⟨b9, 0, none⟩), .pointer (some ⟨b13, 0, none⟩), .int .i64 e141, .int .i64 n142, .pointer (some ⟨b174, 0, none⟩), .int .i64 vt168, undef, undef, undef, .int .i64 day2, .bool false, .bool false, .int .i64 day2, .bool false, .bool false, .bool false, .agg #[.int .i64 b1.ID, .int .i64 b1.Was.X, .int .i64 b1.Was.Y, .int .i64 b1.Was.Z, .int .i64 b1.Here.X, .int .i64 b1.Here.Y, .int .i64 b1.Here.Z, .int .i64 b1.Rate], .bool vt39, .bool false, .bool false, undef, undef, .pointer (some ⟨b5, 1, none⟩), .agg #[.int .i64 b1.Was.X, .int .i64 b1.Was.Y, .int .i64 b1.Was.Z], .pointer (some ⟨b5, 4, none⟩), .agg #[.int .i64 b1.Here.X, .int .i64 b1.Here.Y, .int .i64 b1.Here.Z], .int .i64 day2, .int .i64 n142, .bool true, .bool true, .int .i64 e141, .bool true, .bool true, (j140 8), (j140 9), .tuple #[.agg #[.int .i64 vt167.X, .int .i64 vt167.Y, .int .i64 vt167.Z], .int .i64 vt168], .agg #[.int .i64 x146, .int .i64 x147, .int .i64 x148], .agg #[.int .i64 x143, .int .i64 x144, .int .i64 x145], .tuple #[.agg #[.int .i64 vt167.X, .int .i64 vt167.Y, .int .i64 vt167.Z], .int .i64 vt168], .agg #[.int .i64 vt167.X, .int .i64 vt167.Y, .int .i64 vt167.Z], .int .i64 vt168, .agg #[.int .i64 x143, .int .i64 x144, .int .i64 x145], .agg #[.int .i64 vt167.X, .int .i64 vt167.Y, .int .i64 vt167.Z], .int .i64 vt168, undef, undef, undef, undef, undef, undef, undef, undef, undef, undef, undef, undef, undef, undef, undef, undef, undef, undef, undef, undef, undef, undef, undef, undef, undef], []⟩) rfl (by kernel_rfl) (by kernel_rfl) (by kernel_rfl) (fun ch_ a_ w_ q_ => (fun ch_ a_ w_ q_ => hnp ch_ a_ w_ (hp77 ch_ a_ w_ q_)) ch_ a_ w_ (hp163 ch_ a_ w_ q_)) (Sg.g2 (Sx.of [[(b13, .cells #[.int .i64 x143, .int .i64 x144, .int .i64 x145] 23 (0, 0))], [(b9, .cells #[.int .i64 x146, .int .i64 x147, .int .i64 x148] 23 (0, 0))]] (FM.le.refl _) HS185) (fun _ => St.only [] HS185 (FM.le.refl _)) (fun _ => St.only [[(b13, .cells #[.int .i64 x143, .int .i64 x144, .int .i64 x145] 23 (0, 0))]] HS185 (FM.le.refl _))) ?_
            have HS186 := HS185.u1
            refine takeGE 3 (by kernel_rfl) rfl (by kernel_rfl) (does_store (n := 3) (vs := [.int .i64 x143, .int .i64 x144, .int .i64 x145]) (cs' := #[.int .i64 x143, .int .i64 x144, .int .i64 x145]) rfl (by kernel_rfl) (by kernel_rfl : _ = Value.pointer (some ⟨b9, 0, none⟩)) (by kernel_rfl : _ = Value.agg #[.int .i64 x143, .int .i64 x144, .int .i64 x145]) rfl rfl (by intro u_ hu_; simp only [List.mem_cons, List.not_mem_nil, or_false] at hu_; rcases hu_ with rfl | rfl | rfl <;> rfl) HS186 (Nat.le_of_ble_eq_true rfl) (by kernel_rfl) ?_)
            intro W187 HS188
            refine ⟨(Sg.g2 (Sx.of [[(b9, .cells #[.int .i64 x143, .int .i64 x144, .int .i64 x145] 23 (0, 0))], [(b13, .cells #[.int .i64 x143, .int .i64 x144, .int .i64 x145] 23 (0, 0))]] (FM.le.refl _) HS188) (fun _ => St.only [[(b9, .cells #[.int .i64 x143, .int .i64 x144, .int .i64 x145] 23 (0, 0))]] HS188 (FM.le.refl _)) (fun hl_ => Bool.noConfusion (show true = false from hl_))), ?_⟩
            have HS189 := HS188.u1
            refine takeGE 4 (by kernel_rfl) rfl (by kernel_rfl) (does_store (n := 3) (vs := [.int .i64 vt167.X, .int .i64 vt167.Y, .int .i64 vt167.Z]) (cs' := #[.int .i64 vt167.X, .int .i64 vt167.Y, .int .i64 vt167.Z]) rfl (by kernel_rfl) (by kernel_rfl : _ = Value.pointer (some ⟨b13, 0, none⟩)) (by kernel_rfl : _ = Value.agg #[.int .i64 vt167.X, .int .i64 vt167.Y, .int .i64 vt167.Z]) rfl rfl (by intro u_ hu_; simp only [List.mem_cons, List.not_mem_nil, or_false] at hu_; rcases hu_ with rfl | rfl | rfl <;> rfl) HS189 (Nat.le_of_ble_eq_true rfl) (by kernel_rfl) ?_)
            intro W190 HS191
            refine ⟨(Sg.g2 (Sx.of [[(b13, .cells #[.int .i64 vt167.X, .int .i64 vt167.Y, .int .i64 vt167.Z] 23 (0, 0))], [(b9, .cells #[.int .i64 x143, .int .i64 x144, .int .i64 x145] 23 (0, 0))]] (FM.le.refl _) HS191) (fun hl_ => Bool.noConfusion (show true = false from hl_)) (fun hl_ => Bool.noConfusion (show true = false from hl_))), ?_⟩
            refine takeG [5] (n := 1) (fuel := 0) (l' := #[true, true, true, true, true, true]) (a' := ⟨#[.agg #[.int .i64 b1.ID, .int .i64 b1.Was.X, .int .i64 b1.Was.Y, .int .i64 b1.Was.Z, .int .i64 b1.Here.X, .int .i64 b1.Here.Y, .int .i64 b1.Here.Z, .int .i64 b1.Rate], .int .i64 day2, .pointer (some ⟨b5, 0, none⟩), undef, .pointer (some ⟨b9, 0, none⟩), .pointer (some ⟨b13, 0, none⟩), .int .i64 vt168, .int .i64 n142, .pointer (some ⟨b174, 0, none⟩), .int .i64 vt168, undef, undef, undef, .int .i64 day2, .bool false, .bool false, .int .i64 day2, .bool false, .bool false, .bool false, .agg #[.int .i64 b1.ID, .int .i64 b1.Was.X, .int .i64 b1.Was.Y, .int .i64 b1.Was.Z, .int .i64 b1.Here.X, .int .i64 b1.Here.Y, .int .i64 b1.Here.Z, .int .i64 b1.Rate], .bool vt39, .bool false, .bool false, undef, undef, .pointer (some ⟨b5, 1, none⟩), .agg #[.int .i64 b1.Was.X, .int .i64 b1.Was.Y, .int .i64 b1.Was.Z], .pointer (some ⟨b5, 4, none⟩), .agg #[.int .i64 b1.Here.X, .int .i64 b1.Here.Y, .int .i64 b1.Here.Z], .int .i64 day2, .int .i64 n142, .bool true, .bool true, .int .i64 e141, .bool true, .bool true, (j140 8), (j140 9), .tuple #[.agg #[.int .i64 vt167.X, .int .i64 vt167.Y, .int .i64 vt167.Z], .int .i64 vt168], .agg #[.int .i64 x146, .int .i64 x147, .int .i64 x148], .agg #[.int .i64 x143, .int .i64 x144, .int .i64 x145], .tuple #[.agg #[.int .i64 vt167.X, .int .i64 vt167.Y, .int .i64 vt167.Z], .int .i64 vt168], .agg #[.int .i64 vt167.X, .int .i64 vt167.Y, .int .i64 vt167.Z], .int .i64 vt168, .agg #[.int .i64 x143, .int .i64 x144, .int .i64 x145], .agg #[.int .i64 vt167.X, .int .i64 vt167.Y, .int .i64 vt167.Z], .int .i64 vt168, undef, undef, undef, undef, undef, undef, undef, undef, undef, undef, undef, undef, undef, undef, undef, undef, undef, undef, undef, undef, undef, undef, undef, undef, undef], []⟩) rfl (by kernel_rfl) (by kernel_rfl) (by kernel_rfl) (fun ch_ a_ w_ q_ => (fun ch_ a_ w_ q_ => hnp ch_ a_ w_ (hp77 ch_ a_ w_ q_)) ch_ a_ w_ (hp163 ch_ a_ w_ q_)) (Sg.g2 (Sx.of [[(b13, .cells #[.int .i64 vt167.X, .int .i64 vt167.Y, .int .i64 vt167.Z] 23 (0, 0))], [(b9, .cells #[.int .i64 x143, .int .i64 x144, .int .i64 x145] 23 (0, 0))]] (FM.le.refl _) HS191) (fun hl_ => Bool.noConfusion (show true = false from hl_)) (fun hl_ => Bool.noConfusion (show true = false from hl_))) ?_
            refine doneG (by kernel_rfl) ?_ _
            refine hn160 _ _ ?_
            refine hK157 _ _ ?_
            refine wp_region_lit ?_
            refine seqS3 (a' := ⟨#[.agg #[.int .i64 b1.ID, .int .i64 b1.Was.X, .int .i64 b1.Was.Y, .int .i64 b1.Was.Z, .int .i64 b1.Here.X, .int .i64 b1.Here.Y, .int .i64 b1.Here.Z, .int .i64 b1.Rate], .int .i64 day2, .pointer (some ⟨b5, 0, none⟩), undef, .pointer (some ⟨b9, 0, none⟩), .pointer (some ⟨b13, 0, none⟩), .int .i64 vt168, .int .i64 (w64 (n142 - 1)), .pointer (some ⟨b174, 0, none⟩), .int .i64 vt168, undef, undef, undef, .int .i64 day2, .bool false, .bool false, .int .i64 day2, .bool false, .bool false, .bool false, .agg #[.int .i64 b1.ID, .int .i64 b1.Was.X, .int .i64 b1.Was.Y, .int .i64 b1.Was.Z, .int .i64 b1.Here.X, .int .i64 b1.Here.Y, .int .i64 b1.Here.Z, .int .i64 b1.Rate], .bool vt39, .bool false, .bool false, undef, undef, .pointer (some ⟨b5, 1, none⟩), .agg #[.int .i64 b1.Was.X, .int .i64 b1.Was.Y, .int .i64 b1.Was.Z], .pointer (some ⟨b5, 4, none⟩), .agg #[.int .i64 b1.Here.X, .int .i64 b1.Here.Y, .int .i64 b1.Here.Z], .int .i64 day2, .int .i64 n142, .bool true, .bool true, .int .i64 e141, .bool true, .bool true, .int .i64 n142, .int .i64 (w64 (n142 - 1)), .tuple #[.agg #[.int .i64 vt167.X, .int .i64 vt167.Y, .int .i64 vt167.Z], .int .i64 vt168], .agg #[.int .i64 x146, .int .i64 x147, .int .i64 x148], .agg #[.int .i64 x143, .int .i64 x144, .int .i64 x145], .tuple #[.agg #[.int .i64 vt167.X, .int .i64 vt167.Y, .int .i64 vt167.Z], .int .i64 vt168], .agg #[.int .i64 vt167.X, .int .i64 vt167.Y, .int .i64 vt167.Z], .int .i64 vt168, .agg #[.int .i64 x143, .int .i64 x144, .int .i64 x145], .agg #[.int .i64 vt167.X, .int .i64 vt167.Y, .int .i64 vt167.Z], .int .i64 vt168, undef, undef, undef, undef, undef, undef, undef, undef, undef, undef, undef, undef, undef, undef, undef, undef, undef, undef, undef, undef, undef, undef, undef, undef, undef], []⟩) (by kernel_rfl) ?_
            refine wpList_nil ?_
            refine hK134 n135 _ _ (Nat.lt_succ_self _) ?_
            have HS207 := HS191.u3
            have HS208 := HS207.u2
            have HS209 := HS208.u2
            have HS210 := HS209.u3
            have HS211 := HS210.drop
            exact ⟨f170, vt168, (w64 (n142 - 1)), vt167.X, vt167.Y, vt167.Z, x143, x144, x145, (fun i_ => [Value.pointer (some ⟨b174, 0, none⟩), Value.int .i64 vt168, Value.int .i64 n142, Value.bool true, Value.bool true, Value.int .i64 e141, Value.bool true, Value.bool true, Value.int .i64 n142, Value.int .i64 (w64 (n142 - 1)), Value.tuple #[.agg #[.int .i64 vt167.X, .int .i64 vt167.Y, .int .i64 vt167.Z], .int .i64 vt168], Value.agg #[.int .i64 x146, .int .i64 x147, .int .i64 x148], Value.agg #[.int .i64 x143, .int .i64 x144, .int .i64 x145], Value.tuple #[.agg #[.int .i64 vt167.X, .int .i64 vt167.Y, .int .i64 vt167.Z], .int .i64 vt168], Value.agg #[.int .i64 vt167.X, .int .i64 vt167.Y, .int .i64 vt167.Z], Value.int .i64 vt168, Value.agg #[.int .i64 x143, .int .i64 x144, .int .i64 x145], Value.agg #[.int .i64 vt167.X, .int .i64 vt167.Y, .int .i64 vt167.Z], Value.int .i64 vt168].getD i_ undef), (L137.trans L171), HS211, h, (by kernel_rfl)⟩
          · have c155 : ¬ (e141 = 0) := c155
            refine wpRwI 35 (x := (e141 == 0)) (v := false) (by kernel_rfl) (beq_eq_false_iff_ne.mpr c155) ?_
            refine wpRwI 36 (x := (e141 == 0)) (v := false) (by kernel_rfl) (beq_eq_false_iff_ne.mpr c155) ?_
            refine condF (by kernel_rfl) ?_
            refine wp_exit ?_
            refine hx73 _ _ ?_
            exact J205 f136 e141 x143 x144 x145 x146 x147 x148 (fun i_ => [Value.int .i64 n142, (j140 0), (j140 1), Value.int .i64 n142, Value.bool true, Value.bool true, Value.int .i64 e141, Value.bool false, Value.bool false, (j140 8), (j140 9), (j140 10), (j140 11), (j140 12), (j140 13), (j140 14), (j140 15), (j140 16), (j140 17), (j140 18)].getD i_ undef) W138 _ L137 h HS139 (by kernel_rfl)
        · have c153 : ¬ (n142 > 0) := c153
          refine seqRwI 32 (x := (decide (n142 > 0))) (v := false) (by kernel_rfl) (decide_eq_false c153) ?_
          refine seqRwI 33 (x := (decide (n142 > 0))) (v := false) (by kernel_rfl) (decide_eq_false c153) ?_
          refine seqS3 (a' := ⟨#[.agg #[.int .i64 b1.ID, .int .i64 b1.Was.X, .int .i64 b1.Was.Y, .int .i64 b1.Was.Z, .int .i64 b1.Here.X, .int .i64 b1.Here.Y, .int .i64 b1.Here.Z, .int .i64 b1.Rate], .int .i64 day2, .pointer (some ⟨b5, 0, none⟩), undef, .pointer (some ⟨b9, 0, none⟩), .pointer (some ⟨b13, 0, none⟩), .int .i64 e141, .int .i64 n142, (j140 0), (j140 1), undef, undef, undef, .int .i64 day2, .bool false, .bool false, .int .i64 day2, .bool false, .bool false, .bool false, .agg #[.int .i64 b1.ID, .int .i64 b1.Was.X, .int .i64 b1.Was.Y, .int .i64 b1.Was.Z, .int .i64 b1.Here.X, .int .i64 b1.Here.Y, .int .i64 b1.Here.Z, .int .i64 b1.Rate], .bool vt39, .bool false, .bool false, undef, undef, .pointer (some ⟨b5, 1, none⟩), .agg #[.int .i64 b1.Was.X, .int .i64 b1.Was.Y, .int .i64 b1.Was.Z], .pointer (some ⟨b5, 4, none⟩), .agg #[.int .i64 b1.Here.X, .int .i64 b1.Here.Y, .int .i64 b1.Here.Z], .int .i64 day2, .int .i64 n142, .bool false, .bool false, undef, undef, .bool false, (j140 8), (j140 9), (j140 10), (j140 11), (j140 12), (j140 13), (j140 14), (j140 15), (j140 16), (j140 17), (j140 18), undef, undef, undef, undef, undef, undef, undef, undef, undef, undef, undef, undef, undef, undef, undef, undef, undef, undef, undef, undef, undef, undef, undef, undef, undef], []⟩) (by kernel_rfl) ?_
          refine wpList_nil ?_
          refine hK152 _ _ ?_
          refine condF (by kernel_rfl) ?_
          refine wp_exit ?_
          refine hx73 _ _ ?_
          exact J205 f136 e141 x143 x144 x145 x146 x147 x148 (fun i_ => [Value.int .i64 n142, (j140 0), (j140 1), Value.int .i64 n142, Value.bool false, Value.bool false, undef, undef, Value.bool false, (j140 8), (j140 9), (j140 10), (j140 11), (j140 12), (j140 13), (j140 14), (j140 15), (j140 16), (j140 17), (j140 18)].getD i_ undef) W138 _ L137 h HS139 (by kernel_rfl)

set_option maxRecDepth 100000 in
set_option maxHeartbeats 4000000 in
theorem num_FloorDiv.calls (k : Nat)  (a1 : Int) (b2 : Int) {t w : World} {f : FM} {H : List Seg} (HS : St t w f (H)) (r1 : Int) (h : num_FloorDiv k a1 b2 = some r1) :
    Calls Try.prog 35 #[.int .i64 a1, .int .i64 b2] w (fun e w' => ∃ (g : FM), e = .returned (Value.int .i64 r1) ∧ FM.le f g ∧ St t w' g (H)) := by
  unfold num_FloorDiv at h
  refine enter Try.func35 rfl (tm := #[.int .i64 a1, .int .i64 b2, undef, undef, undef, undef, undef, undef, undef, undef, undef, undef, undef, undef, undef, undef, undef, undef]) (by kernel_rfl) ?_
  intro B hret hnor hnp
  refine wp_seq_k (fun K3 hK4 => ?_)
  refine wp_region_lit ?_
  refine seqS1 (a' := ⟨#[.int .i64 a1, .int .i64 b2, undef, undef, .int .i64 0, undef, undef, undef, undef, undef, undef, undef, undef, undef, undef, undef, undef, undef], []⟩) (by kernel_rfl) ?_
  refine wpList_nil ?_
  refine hK4 _ _ ?_
  refine wp_seq_k (fun K5 hK6 => ?_)
  refine wp_seq_k (fun K7 hK8 => ?_)
  refine wp_region_lit ?_
  refine seqS2 (a' := ⟨#[.int .i64 a1, .int .i64 b2, undef, undef, .int .i64 0, undef, .int .i64 b2, .bool (decide (b2 < 1)), undef, undef, undef, undef, undef, undef, undef, undef, undef, undef], []⟩) (by kernel_rfl) ?_
  refine wpList_nil ?_
  refine hK8 _ _ ?_
  have hq_ := ite_some h; clear h; rcases hq_ with ⟨c10, h⟩ | ⟨c10, h⟩
  · have c10 : b2 < 1 := c10
    refine wpRwI 7 (x := (decide (b2 < 1))) (v := true) (by kernel_rfl) (decide_eq_true c10) ?_
    refine condT (by kernel_rfl) ?_
    refine wp_seq_k (fun K11 hK12 => ?_)
    refine wp_region_lit ?_
    refine seqS1 (a' := ⟨#[.int .i64 a1, .int .i64 b2, undef, undef, .int .i64 0, undef, .int .i64 b2, .bool true, undef, undef, undef, undef, undef, undef, undef, undef, undef, undef], []⟩) (by kernel_rfl) ?_
    refine wpList_nil ?_
    refine hK12 _ _ ?_
    refine wp_ret ?_
    refine hret _ _ ?_
    refine ends_still (v := Value.int .i64 0) (by kernel_rfl) (by kernel_rfl) ?_
    injection h with h
    subst h
    exact ⟨f, rfl, FM.le.refl _, HS⟩
  · have c10 : ¬ (b2 < 1) := c10
    refine wpRwI 7 (x := (decide (b2 < 1))) (v := false) (by kernel_rfl) (decide_eq_false c10) ?_
    refine condF (by kernel_rfl) ?_
    refine wp_skip ?_
    refine hK6 _ _ ?_
    refine wp_seq_k (fun K13 hK14 => ?_)
    refine wp_region_lit ?_
    have hq_ := guard_some h; clear h; obtain ⟨c15, h⟩ := hq_
    have c15 : ¬ (b2 = 0) := c15
    refine seqL2 (by kernel_rfl) ?_
    refine seqK rfl (does_run (run_div rfl (by kernel_rfl : _ = Value.int .i64 a1) (by kernel_rfl : _ = Value.int .i64 b2) c15 w) ?_)
    refine seqS1 (a' := ⟨#[.int .i64 a1, .int .i64 b2, undef, undef, .int .i64 0, .int .i64 (w64 (Int.tdiv a1 b2)), .int .i64 b2, .bool false, .int .i64 a1, .int .i64 b2, .int .i64 (w64 (Int.tdiv a1 b2)), undef, undef, undef, undef, undef, undef, undef], []⟩) (by kernel_rfl) ?_
    refine wpList_nil ?_
    refine hK14 _ _ ?_
    refine wp_seq_k (fun K16 hK17 => ?_)
    refine wp_seq_k (fun K18 hK19 => ?_)
    refine wp_region_lit ?_
    refine seqL2 (by kernel_rfl) ?_
    refine seqK rfl (does_run (run_rem rfl (by kernel_rfl : _ = Value.int .i64 a1) (by kernel_rfl : _ = Value.int .i64 b2) c15 w) ?_)
    refine seqS1 (a' := ⟨#[.int .i64 a1, .int .i64 b2, undef, undef, .int .i64 0, .int .i64 (w64 (Int.tdiv a1 b2)), .int .i64 b2, .bool false, .int .i64 a1, .int .i64 b2, .int .i64 (w64 (Int.tdiv a1 b2)), .int .i64 a1, .int .i64 b2, .int .i64 (Int.tmod a1 b2), .bool (decide ((Int.tmod a1 b2) < 0)), undef, undef, undef], []⟩) (by kernel_rfl) ?_
    refine wpList_nil ?_
    refine hK19 _ _ ?_
    have hq_ := ite_some h; clear h; rcases hq_ with ⟨c21, h⟩ | ⟨c21, h⟩
    · have c21 : (Int.tmod a1 b2) < 0 := c21
      refine wpRwI 14 (x := (decide ((Int.tmod a1 b2) < 0))) (v := true) (by kernel_rfl) (decide_eq_true c21) ?_
      refine condT (by kernel_rfl) ?_
      refine wp_region_lit ?_
      refine seqS3 (a' := ⟨#[.int .i64 a1, .int .i64 b2, undef, undef, .int .i64 0, .int .i64 (w64 ((w64 (Int.tdiv a1 b2)) - 1)), .int .i64 b2, .bool false, .int .i64 a1, .int .i64 b2, .int .i64 (w64 (Int.tdiv a1 b2)), .int .i64 a1, .int .i64 b2, .int .i64 (Int.tmod a1 b2), .bool true, .int .i64 (w64 (Int.tdiv a1 b2)), .int .i64 (w64 ((w64 (Int.tdiv a1 b2)) - 1)), undef], []⟩) (by kernel_rfl) ?_
      refine wpList_nil ?_
      refine hK17 _ _ ?_
      refine wp_seq_k (fun K22 hK23 => ?_)
      refine wp_region_lit ?_
      refine seqS2 (a' := ⟨#[.int .i64 a1, .int .i64 b2, undef, undef, .int .i64 (w64 ((w64 (Int.tdiv a1 b2)) - 1)), .int .i64 (w64 ((w64 (Int.tdiv a1 b2)) - 1)), .int .i64 b2, .bool false, .int .i64 a1, .int .i64 b2, .int .i64 (w64 (Int.tdiv a1 b2)), .int .i64 a1, .int .i64 b2, .int .i64 (Int.tmod a1 b2), .bool true, .int .i64 (w64 (Int.tdiv a1 b2)), .int .i64 (w64 ((w64 (Int.tdiv a1 b2)) - 1)), .int .i64 (w64 ((w64 (Int.tdiv a1 b2)) - 1))], []⟩) (by kernel_rfl) ?_
      refine wpList_nil ?_
      refine hK23 _ _ ?_
      refine wp_ret ?_
      refine hret _ _ ?_
      refine ends_still (v := Value.int .i64 (w64 ((w64 (Int.tdiv a1 b2)) - 1))) (by kernel_rfl) (by kernel_rfl) ?_
      injection h with h
      subst h
      exact ⟨f, rfl, FM.le.refl _, HS⟩
    · have c21 : ¬ ((Int.tmod a1 b2) < 0) := c21
      refine wpRwI 14 (x := (decide ((Int.tmod a1 b2) < 0))) (v := false) (by kernel_rfl) (decide_eq_false c21) ?_
      refine condF (by kernel_rfl) ?_
      refine wp_skip ?_
      refine hK17 _ _ ?_
      refine wp_seq_k (fun K24 hK25 => ?_)
      refine wp_region_lit ?_
      refine seqS2 (a' := ⟨#[.int .i64 a1, .int .i64 b2, undef, undef, .int .i64 (w64 (Int.tdiv a1 b2)), .int .i64 (w64 (Int.tdiv a1 b2)), .int .i64 b2, .bool false, .int .i64 a1, .int .i64 b2, .int .i64 (w64 (Int.tdiv a1 b2)), .int .i64 a1, .int .i64 b2, .int .i64 (Int.tmod a1 b2), .bool false, undef, undef, .int .i64 (w64 (Int.tdiv a1 b2))], []⟩) (by kernel_rfl) ?_
      refine wpList_nil ?_
      refine hK25 _ _ ?_
      refine wp_ret ?_
      refine hret _ _ ?_
      refine ends_still (v := Value.int .i64 (w64 (Int.tdiv a1 b2))) (by kernel_rfl) (by kernel_rfl) ?_
      injection h with h
      subst h
      exact ⟨f, rfl, FM.le.refl _, HS⟩

set_option maxRecDepth 100000 in
set_option maxHeartbeats 4000000 in
theorem sky_Place_1.calls (k : Nat) (b1 : Nat) (v3 : Int) (a4 : Int) (b5 : Int) {t w : World} {f : FM} {H : List Seg} (HS : St t w f ([(b1, .cells #[.int .i64 v3] 2 (0, 0))] :: H)) (r1 : Int) (h : sky_Place_1 k v3 a4 b5 = some r1) :
    Calls Try.prog 36 #[.int .i64 a4, .int .i64 b5, .pointer (some ⟨b1, 0, none⟩)] w (fun e w' => ∃ (g : FM), e = .returned (Value.int .i64 r1) ∧ FM.le f g ∧ St t w' g ([(b1, .cells #[.int .i64 v3] 2 (0, 0))] :: H)) := by
  unfold sky_Place_1 at h
  refine enter Try.func36 rfl (tm := #[.int .i64 a4, .int .i64 b5, .pointer (some ⟨b1, 0, none⟩), undef, undef, undef, undef, undef, undef, undef, undef, undef, undef, undef]) (by kernel_rfl) ?_
  intro B hret hnor hnp
  refine wp_seq_k (fun K6 hK7 => ?_)
  refine wp_region_lit ?_
  refine seqS1 (a' := ⟨#[.int .i64 a4, .int .i64 b5, .pointer (some ⟨b1, 0, none⟩), undef, undef, .int .i64 0, undef, undef, undef, undef, undef, undef, undef, undef], []⟩) (by kernel_rfl) ?_
  refine wpList_nil ?_
  refine hK7 _ _ ?_
  refine wp_seq_k (fun K8 hK9 => ?_)
  refine wp_region_lit ?_
  refine seqL4 (by kernel_rfl) ?_
  refine seqK rfl (does_run (run_load rfl Try.underlying2 rfl (by kernel_rfl : _ = Value.pointer (some ⟨b1, 0, none⟩)) (HS.cell 0)) ?_)
  have hq_ := bind_some h; clear h; obtain ⟨vt10, hc11, h⟩ := hq_
  refine seqL1 (by kernel_rfl) ?_
  refine seqK rfl (does_call (f := 35) (args := #[.int .i64 (w64 ((w64 (b5 - a4)) * v3)), .int .i64 86400000]) (by kernel_rfl) (num_FloorDiv.calls k (w64 ((w64 (b5 - a4)) * v3)) 86400000 HS vt10 hc11) ?_)
  rintro _ W14 ⟨f12, rfl, L13, HS15⟩
  refine ⟨_, rfl, ?_⟩
  refine seqS2 (a' := ⟨#[.int .i64 a4, .int .i64 b5, .pointer (some ⟨b1, 0, none⟩), undef, undef, .int .i64 (w64 (a4 + vt10)), .int .i64 a4, .int .i64 b5, .int .i64 a4, .int .i64 (w64 (b5 - a4)), .int .i64 v3, .int .i64 (w64 ((w64 (b5 - a4)) * v3)), .int .i64 vt10, .int .i64 (w64 (a4 + vt10))], []⟩) (by kernel_rfl) ?_
  refine wpList_nil ?_
  refine hK9 _ _ ?_
  refine wp_ret ?_
  refine hret _ _ ?_
  refine ends_still (v := Value.int .i64 (w64 (a4 + vt10))) (by kernel_rfl) (by kernel_rfl) ?_
  injection h with h
  subst h
  exact ⟨f12, rfl, L13, HS15⟩

end Go.Sp.Z5
