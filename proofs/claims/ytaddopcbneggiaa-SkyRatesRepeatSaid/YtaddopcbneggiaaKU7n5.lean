import Derived.Test.YtaddopcbneggiaaProg
import Derived.Test.YtaddopcbneggiaaSpCopy
import Derived.Test.YtaddopcbneggiaaFU7
import Derived.Test.YtaddopcbneggiaaSpMap
import Derived.Test.YtaddopcbneggiaaKU7n0
import Derived.Test.YtaddopcbneggiaaKU7n1
import Derived.Test.YtaddopcbneggiaaKU7n2
import Derived.Test.YtaddopcbneggiaaKU7n3
import Derived.Test.YtaddopcbneggiaaKU7n4
namespace Go.Sp.U7
open Go Go.Sp Go.Proofs
set_option linter.unusedVariables false
attribute [local irreducible] wpList AnyL Code.wp Calls Does
set_option maxRecDepth 100000 in
set_option maxHeartbeats 4000000 in
theorem num_Wide_Div.calls (k : Nat)  (vw1 : S_Wide) (d2 : Int) {t w : World} {f : FM} {H : List Seg} (HS : St t w f (H)) (r1 : Int) (r2 : Int) (h : num_Wide_Div k vw1 d2 = some (r1, r2)) :
    Calls Try.prog 46 #[.agg #[.int .i64 vw1.Hi, .int .u64 vw1.Lo], .int .i64 d2] w (fun e w' => ∃ (g : FM), e = .returned (Value.tuple #[.int .i64 r1, .int .i64 r2]) ∧ FM.le f g ∧ St t w' g (H)) := by
  unfold num_Wide_Div at h
  refine enter Try.func46 rfl (tm := #[.agg #[iV vw1.Hi, .int .u64 vw1.Lo], iV d2, uV, uV, uV, uV, uV, uV, uV, uV, uV, uV, uV, uV, uV, uV, uV, uV, uV, uV, uV, uV, uV, uV, uV, uV, uV, uV, uV, uV, uV, uV, uV, uV, uV, uV, uV, uV, uV, uV, uV, uV, uV, uV, uV, uV, uV, uV, uV, uV, uV, uV, uV, uV, uV, uV, uV, uV, uV, uV, uV]) (by kernel_rfl) ?_
  intro B hret hnor hnp
  refine wp_seq_k (fun K3 hK4 => ?_)
  refine wp_region_lit ?_
  refine seqK rfl (does_box (cs := #[.int .i64 vw1.Hi, .int .u64 vw1.Lo]) rfl (by kernel_rfl : _ = Value.agg #[.int .i64 vw1.Hi, .int .u64 vw1.Lo]) rfl HS ?_)
  intro b5 W6 HS7
  refine seqS2 (a' := ⟨#[.agg #[iV vw1.Hi, .int .u64 vw1.Lo], iV d2, .pointer (some ⟨b5, 0, none⟩), uV, iV 0, iV 0, uV, uV, uV, uV, uV, uV, uV, uV, uV, uV, uV, uV, uV, uV, uV, uV, uV, uV, uV, uV, uV, uV, uV, uV, uV, uV, uV, uV, uV, uV, uV, uV, uV, uV, uV, uV, uV, uV, uV, uV, uV, uV, uV, uV, uV, uV, uV, uV, uV, uV, uV, uV, uV, uV, uV], []⟩) (by kernel_rfl) ?_
  refine wpList_nil ?_
  refine hK4 _ _ ?_
  refine wp_seq_k (fun K9 hK10 => ?_)
  refine wp_seq_k (fun K11 hK12 => ?_)
  refine wp_region_lit ?_
  refine seqS2 (a' := ⟨#[.agg #[iV vw1.Hi, .int .u64 vw1.Lo], iV d2, .pointer (some ⟨b5, 0, none⟩), uV, iV 0, iV 0, uV, uV, uV, uV, iV d2, .bool (decide (d2 < 1)), uV, uV, uV, uV, uV, uV, uV, uV, uV, uV, uV, uV, uV, uV, uV, uV, uV, uV, uV, uV, uV, uV, uV, uV, uV, uV, uV, uV, uV, uV, uV, uV, uV, uV, uV, uV, uV, uV, uV, uV, uV, uV, uV, uV, uV, uV, uV, uV, uV], []⟩) (by kernel_rfl) ?_
  refine wpList_nil ?_
  refine hK12 _ _ ?_
  have hq_ := ite_some h; clear h; rcases hq_ with ⟨c14, h⟩ | ⟨c14, h⟩
  · have c14 : d2 < 1 := c14
    refine wpRwI 11 (x := (decide (d2 < 1))) (v := true) (by kernel_rfl) (decide_eq_true c14) ?_
    refine condT (by kernel_rfl) ?_
    refine wp_seq_k (fun K15 hK16 => ?_)
    refine wp_region_lit ?_
    refine seqS2 (a' := ⟨#[.agg #[iV vw1.Hi, .int .u64 vw1.Lo], iV d2, .pointer (some ⟨b5, 0, none⟩), uV, iV 0, iV 1, uV, uV, uV, uV, iV d2, .bool true, uV, uV, uV, uV, uV, uV, uV, uV, uV, uV, uV, uV, uV, uV, uV, uV, uV, uV, uV, uV, uV, uV, uV, uV, uV, uV, uV, uV, uV, uV, uV, uV, uV, uV, uV, uV, uV, uV, uV, uV, uV, uV, uV, uV, uV, uV, uV, uV, uV], []⟩) (by kernel_rfl) ?_
    refine wpList_nil ?_
    refine hK16 _ _ ?_
    refine wp_ret ?_
    refine hret _ _ ?_
    refine ends_still (v := Value.tuple #[.int .i64 0, .int .i64 1]) (by kernel_rfl) (by kernel_rfl) ?_
    have HS129 := HS7.drop
    injection h with h
    injection h with h0_ h
    subst h0_ h
    exact ⟨f, rfl, FM.le.refl _, HS129⟩
  · have c14 : ¬ (d2 < 1) := c14
    refine wpRwI 11 (x := (decide (d2 < 1))) (v := false) (by kernel_rfl) (decide_eq_false c14) ?_
    refine condF (by kernel_rfl) ?_
    refine wp_skip ?_
    refine hK10 _ _ ?_
    refine wp_seq_k (fun K17 hK18 => ?_)
    refine wp_region_lit ?_
    refine seqK rfl (does_run (run_loadN (n := 2) rfl Try.underlying95 rfl (by kernel_rfl) (by kernel_rfl : _ = Value.pointer (some ⟨b5, 0, none⟩)) (cs := [.int .i64 vw1.Hi, .int .u64 vw1.Lo]) rfl (HS7.cells 0 2 _ rfl)) ?_)
    refine seqK rfl (does_alloc (z := Value.agg #[.int .i64 0, .int .u64 0]) (cs := #[.int .i64 0, .int .u64 0]) rfl (by kernel_rfl) rfl HS7 ?_)
    intro b19 W20 HS21
    refine seqK rfl (does_store (n := 2) (vs := [.int .i64 vw1.Hi, .int .u64 vw1.Lo]) (cs' := #[.int .i64 vw1.Hi, .int .u64 vw1.Lo]) rfl (by kernel_rfl) (by kernel_rfl : _ = Value.pointer (some ⟨b19, 0, none⟩)) (by kernel_rfl : _ = Value.agg #[.int .i64 vw1.Hi, .int .u64 vw1.Lo]) rfl rfl (by intro u_ hu_; simp only [List.mem_cons, List.not_mem_nil, or_false] at hu_; rcases hu_ with rfl | rfl <;> rfl) HS21 (Nat.le_of_ble_eq_true rfl) (by kernel_rfl) ?_)
    intro W23 HS24
    refine wpList_nil ?_
    refine hK18 _ _ ?_
    refine wp_seq_k (fun K25 hK26 => ?_)
    refine wp_seq_k (fun K27 hK28 => ?_)
    refine wp_region_lit ?_
    refine seqL1 (by kernel_rfl) ?_
    refine seqK rfl (does_run (run_load rfl Try.underlying2 rfl (by kernel_rfl : _ = Value.pointer (some ⟨b5, 0, none⟩)) (HS24.u1.cell 0)) ?_)
    refine seqS1 (a' := ⟨#[.agg #[iV vw1.Hi, .int .u64 vw1.Lo], iV d2, .pointer (some ⟨b5, 0, none⟩), uV, iV 0, iV 0, .pointer (some ⟨b19, 0, none⟩), uV, uV, uV, iV d2, .bool false, .agg #[iV vw1.Hi, .int .u64 vw1.Lo], .pointer (some ⟨b5, 0, none⟩), iV vw1.Hi, .bool (decide (vw1.Hi < 0)), uV, uV, uV, uV, uV, uV, uV, uV, uV, uV, uV, uV, uV, uV, uV, uV, uV, uV, uV, uV, uV, uV, uV, uV, uV, uV, uV, uV, uV, uV, uV, uV, uV, uV, uV, uV, uV, uV, uV, uV, uV, uV, uV, uV, uV], []⟩) (by kernel_rfl) ?_
    refine wpList_nil ?_
    refine hK28 _ _ ?_
    have hq_ := bind_some h; clear h; obtain ⟨v29, hv46, h⟩ := hq_
    have J47 : ∀ (f39 : FM) (x44 : Int) (x45 : Int) (j43 : Nat → Value) (W41 : World) (a_ : Act), FM.le f f39 → some ((x44, x45)) = some v29 → St t W41 f39 ([(b19, .cells #[.int .i64 x44, .int .u64 x45] 95 (0, 0))] :: [(b5, .cells #[.int .i64 vw1.Hi, .int .u64 vw1.Lo] 95 (0, 0))] :: H) → a_ = ⟨#[.agg #[iV vw1.Hi, .int .u64 vw1.Lo], iV d2, .pointer (some ⟨b5, 0, none⟩), uV, iV 0, iV 0, .pointer (some ⟨b19, 0, none⟩), uV, uV, uV, iV d2, .bool false, .agg #[iV vw1.Hi, .int .u64 vw1.Lo], .pointer (some ⟨b5, 0, none⟩), iV vw1.Hi, (j43 0), (j43 1), (j43 2), uV, uV, uV, uV, uV, uV, uV, uV, uV, uV, uV, uV, uV, uV, uV, uV, uV, uV, uV, uV, uV, uV, uV, uV, uV, uV, uV, uV, uV, uV, uV, uV, uV, uV, uV, uV, uV, uV, uV, uV, uV, uV, uV], []⟩ → K25 a_ W41 := by
      intro f39 x44 x45 j43 W41 a_ L40 hj48 HS42  hfr_; subst hfr_
      injection hj48 with hj48; subst hj48; try dsimp only at h
      refine hK26 _ _ ?_
      refine wp_seq_k (fun K49 hK50 => ?_)
      refine wp_seq_k (fun K51 hK52 => ?_)
      refine wp_region_lit ?_
      refine seqL1 (by kernel_rfl) ?_
      refine seqK rfl (does_run (run_load rfl Try.underlying2 rfl (by kernel_rfl : _ = Value.pointer (some ⟨b19, 0, none⟩)) (HS42.cell 0)) ?_)
      refine seqS4 (a' := ⟨#[.agg #[iV vw1.Hi, .int .u64 vw1.Lo], iV d2, .pointer (some ⟨b5, 0, none⟩), uV, iV 0, iV 0, .pointer (some ⟨b19, 0, none⟩), uV, uV, uV, iV d2, .bool false, .agg #[iV vw1.Hi, .int .u64 vw1.Lo], .pointer (some ⟨b5, 0, none⟩), iV vw1.Hi, (j43 0), (j43 1), (j43 2), .pointer (some ⟨b19, 0, none⟩), iV x44, .int .u64 (u64 (x44)), iV d2, .int .u64 (u64 (d2)), .bool (decide ((u64 (x44)) ≥ (u64 (d2)))), uV, uV, uV, uV, uV, uV, uV, uV, uV, uV, uV, uV, uV, uV, uV, uV, uV, uV, uV, uV, uV, uV, uV, uV, uV, uV, uV, uV, uV, uV, uV, uV, uV, uV, uV, uV, uV], []⟩) (by kernel_rfl) ?_
      refine wpList_nil ?_
      refine hK52 _ _ ?_
      have hq_ := ite_some h; clear h; rcases hq_ with ⟨c54, h⟩ | ⟨c54, h⟩
      · have c54 : (u64 (x44)) ≥ (u64 (d2)) := c54
        refine wpRwI 23 (x := (decide ((u64 (x44)) ≥ (u64 (d2))))) (v := true) (by kernel_rfl) (decide_eq_true c54) ?_
        refine condT (by kernel_rfl) ?_
        refine wp_seq_k (fun K55 hK56 => ?_)
        refine wp_region_lit ?_
        refine seqS2 (a' := ⟨#[.agg #[iV vw1.Hi, .int .u64 vw1.Lo], iV d2, .pointer (some ⟨b5, 0, none⟩), uV, iV 0, iV 2, .pointer (some ⟨b19, 0, none⟩), uV, uV, uV, iV d2, .bool false, .agg #[iV vw1.Hi, .int .u64 vw1.Lo], .pointer (some ⟨b5, 0, none⟩), iV vw1.Hi, (j43 0), (j43 1), (j43 2), .pointer (some ⟨b19, 0, none⟩), iV x44, .int .u64 (u64 (x44)), iV d2, .int .u64 (u64 (d2)), .bool true, uV, uV, uV, uV, uV, uV, uV, uV, uV, uV, uV, uV, uV, uV, uV, uV, uV, uV, uV, uV, uV, uV, uV, uV, uV, uV, uV, uV, uV, uV, uV, uV, uV, uV, uV, uV, uV], []⟩) (by kernel_rfl) ?_
        refine wpList_nil ?_
        refine hK56 _ _ ?_
        refine wp_ret ?_
        refine hret _ _ ?_
        refine ends_still (v := Value.tuple #[.int .i64 0, .int .i64 2]) (by kernel_rfl) (by kernel_rfl) ?_
        have HS130 := HS42.drop
        have HS131 := HS130.drop
        injection h with h
        injection h with h0_ h
        subst h0_ h
        exact ⟨f39, rfl, L40, HS131⟩
      · have c54 : ¬ ((u64 (x44)) ≥ (u64 (d2))) := c54
        refine wpRwI 23 (x := (decide ((u64 (x44)) ≥ (u64 (d2))))) (v := false) (by kernel_rfl) (decide_eq_false c54) ?_
        refine condF (by kernel_rfl) ?_
        refine wp_skip ?_
        refine hK50 _ _ ?_
        refine wp_seq_k (fun K57 hK58 => ?_)
        refine wp_region_lit ?_
        refine seqL1 (by kernel_rfl) ?_
        refine seqK rfl (does_run (run_load rfl Try.underlying2 rfl (by kernel_rfl : _ = Value.pointer (some ⟨b19, 0, none⟩)) (HS42.cell 0)) ?_)
        refine seqL2 (by kernel_rfl) ?_
        refine seqK rfl (does_run (run_load rfl Try.underlying84 rfl (by kernel_rfl : _ = Value.pointer (some ⟨b19, 1, none⟩)) (HS42.cell 1)) ?_)
        have hq_ := bind_some h; clear h; obtain ⟨⟨vt59, vt60⟩, hc61, h⟩ := hq_
        refine seqL2 (by kernel_rfl) ?_
        refine seqK rfl (does_call (f := 57) (args := #[.int .u64 (u64 (x44)), .int .u64 x45, .int .u64 (u64 (d2))]) (by kernel_rfl) (bits_Div64.calls k (u64 (x44)) x45 (u64 (d2)) HS42 vt59 vt60 hc61) ?_)
        rintro _ W64 ⟨f62, rfl, L63, HS65⟩
        refine ⟨_, rfl, ?_⟩
        refine seqS5 (a' := ⟨#[.agg #[iV vw1.Hi, .int .u64 vw1.Lo], iV d2, .pointer (some ⟨b5, 0, none⟩), uV, iV 0, iV 0, .pointer (some ⟨b19, 0, none⟩), .int .u64 vt59, .int .u64 vt60, uV, iV d2, .bool false, .agg #[iV vw1.Hi, .int .u64 vw1.Lo], .pointer (some ⟨b5, 0, none⟩), iV vw1.Hi, (j43 0), (j43 1), (j43 2), .pointer (some ⟨b19, 0, none⟩), iV x44, .int .u64 (u64 (x44)), iV d2, .int .u64 (u64 (d2)), .bool false, .tuple #[.int .u64 vt59, .int .u64 vt60], .pointer (some ⟨b19, 0, none⟩), iV x44, .int .u64 (u64 (x44)), .pointer (some ⟨b19, 1, none⟩), .int .u64 x45, iV d2, .int .u64 (u64 (d2)), .tuple #[.int .u64 vt59, .int .u64 vt60], .int .u64 vt59, .int .u64 vt60, uV, uV, uV, uV, uV, uV, uV, uV, uV, uV, uV, uV, uV, uV, uV, uV, uV, uV, uV, uV, uV, uV, uV, uV, uV, uV], []⟩) (by kernel_rfl) ?_
        refine wpList_nil ?_
        refine hK58 _ _ ?_
        refine wp_seq_k (fun K66 hK67 => ?_)
        refine wp_region_lit ?_
        refine seqS1 (a' := ⟨#[.agg #[iV vw1.Hi, .int .u64 vw1.Lo], iV d2, .pointer (some ⟨b5, 0, none⟩), uV, iV 0, iV 0, .pointer (some ⟨b19, 0, none⟩), .int .u64 vt59, .int .u64 vt60, .int .u64 9223372036854775807, iV d2, .bool false, .agg #[iV vw1.Hi, .int .u64 vw1.Lo], .pointer (some ⟨b5, 0, none⟩), iV vw1.Hi, (j43 0), (j43 1), (j43 2), .pointer (some ⟨b19, 0, none⟩), iV x44, .int .u64 (u64 (x44)), iV d2, .int .u64 (u64 (d2)), .bool false, .tuple #[.int .u64 vt59, .int .u64 vt60], .pointer (some ⟨b19, 0, none⟩), iV x44, .int .u64 (u64 (x44)), .pointer (some ⟨b19, 1, none⟩), .int .u64 x45, iV d2, .int .u64 (u64 (d2)), .tuple #[.int .u64 vt59, .int .u64 vt60], .int .u64 vt59, .int .u64 vt60, uV, uV, uV, uV, uV, uV, uV, uV, uV, uV, uV, uV, uV, uV, uV, uV, uV, uV, uV, uV, uV, uV, uV, uV, uV, uV], []⟩) (by kernel_rfl) ?_
        refine wpList_nil ?_
        refine hK67 _ _ ?_
        refine wp_seq_k (fun K68 hK69 => ?_)
        refine wp_seq_k (fun K70 hK71 => ?_)
        refine wp_region_lit ?_
        refine seqL1 (by kernel_rfl) ?_
        refine seqK rfl (does_run (run_load rfl Try.underlying2 rfl (by kernel_rfl : _ = Value.pointer (some ⟨b5, 0, none⟩)) (HS65.u1.cell 0)) ?_)
        refine seqS1 (a' := ⟨#[.agg #[iV vw1.Hi, .int .u64 vw1.Lo], iV d2, .pointer (some ⟨b5, 0, none⟩), uV, iV 0, iV 0, .pointer (some ⟨b19, 0, none⟩), .int .u64 vt59, .int .u64 vt60, .int .u64 9223372036854775807, iV d2, .bool false, .agg #[iV vw1.Hi, .int .u64 vw1.Lo], .pointer (some ⟨b5, 0, none⟩), iV vw1.Hi, (j43 0), (j43 1), (j43 2), .pointer (some ⟨b19, 0, none⟩), iV x44, .int .u64 (u64 (x44)), iV d2, .int .u64 (u64 (d2)), .bool false, .tuple #[.int .u64 vt59, .int .u64 vt60], .pointer (some ⟨b19, 0, none⟩), iV x44, .int .u64 (u64 (x44)), .pointer (some ⟨b19, 1, none⟩), .int .u64 x45, iV d2, .int .u64 (u64 (d2)), .tuple #[.int .u64 vt59, .int .u64 vt60], .int .u64 vt59, .int .u64 vt60, .pointer (some ⟨b5, 0, none⟩), iV vw1.Hi, .bool (decide (vw1.Hi < 0)), uV, uV, uV, uV, uV, uV, uV, uV, uV, uV, uV, uV, uV, uV, uV, uV, uV, uV, uV, uV, uV, uV, uV], []⟩) (by kernel_rfl) ?_
        refine wpList_nil ?_
        refine hK71 _ _ ?_
        have hq_ := bind_some h; clear h; obtain ⟨v72, hv95, h⟩ := hq_
        have J96 : ∀ (f89 : FM) (most94 : Int) (j93 : Nat → Value) (W91 : World) (a_ : Act), FM.le f62 f89 → some (most94) = some v72 → St t W91 f89 ([(b19, .cells #[.int .i64 x44, .int .u64 x45] 95 (0, 0))] :: [(b5, .cells #[.int .i64 vw1.Hi, .int .u64 vw1.Lo] 95 (0, 0))] :: H) → a_ = ⟨#[.agg #[iV vw1.Hi, .int .u64 vw1.Lo], iV d2, .pointer (some ⟨b5, 0, none⟩), uV, iV 0, iV 0, .pointer (some ⟨b19, 0, none⟩), .int .u64 vt59, .int .u64 vt60, .int .u64 most94, iV d2, .bool false, .agg #[iV vw1.Hi, .int .u64 vw1.Lo], .pointer (some ⟨b5, 0, none⟩), iV vw1.Hi, (j43 0), (j43 1), (j43 2), .pointer (some ⟨b19, 0, none⟩), iV x44, .int .u64 (u64 (x44)), iV d2, .int .u64 (u64 (d2)), .bool false, .tuple #[.int .u64 vt59, .int .u64 vt60], .pointer (some ⟨b19, 0, none⟩), iV x44, .int .u64 (u64 (x44)), .pointer (some ⟨b19, 1, none⟩), .int .u64 x45, iV d2, .int .u64 (u64 (d2)), .tuple #[.int .u64 vt59, .int .u64 vt60], .int .u64 vt59, .int .u64 vt60, .pointer (some ⟨b5, 0, none⟩), iV vw1.Hi, (j93 0), (j93 1), (j93 2), (j93 3), (j93 4), uV, uV, uV, uV, uV, uV, uV, uV, uV, uV, uV, uV, uV, uV, uV, uV, uV, uV, uV], []⟩ → K68 a_ W91 := by
          intro f89 most94 j93 W91 a_ L90 hj97 HS92  hfr_; subst hfr_
          injection hj97 with hj97; subst hj97; try dsimp only at h
          refine hK69 _ _ ?_
          refine wp_seq_k (fun K98 hK99 => ?_)
          refine wp_seq_k (fun K100 hK101 => ?_)
          refine wp_region_lit ?_
          refine seqS3 (a' := ⟨#[.agg #[iV vw1.Hi, .int .u64 vw1.Lo], iV d2, .pointer (some ⟨b5, 0, none⟩), uV, iV 0, iV 0, .pointer (some ⟨b19, 0, none⟩), .int .u64 vt59, .int .u64 vt60, .int .u64 most94, iV d2, .bool false, .agg #[iV vw1.Hi, .int .u64 vw1.Lo], .pointer (some ⟨b5, 0, none⟩), iV vw1.Hi, (j43 0), (j43 1), (j43 2), .pointer (some ⟨b19, 0, none⟩), iV x44, .int .u64 (u64 (x44)), iV d2, .int .u64 (u64 (d2)), .bool false, .tuple #[.int .u64 vt59, .int .u64 vt60], .pointer (some ⟨b19, 0, none⟩), iV x44, .int .u64 (u64 (x44)), .pointer (some ⟨b19, 1, none⟩), .int .u64 x45, iV d2, .int .u64 (u64 (d2)), .tuple #[.int .u64 vt59, .int .u64 vt60], .int .u64 vt59, .int .u64 vt60, .pointer (some ⟨b5, 0, none⟩), iV vw1.Hi, (j93 0), (j93 1), (j93 2), (j93 3), (j93 4), .int .u64 vt59, .int .u64 most94, .bool (decide (vt59 > most94)), uV, uV, uV, uV, uV, uV, uV, uV, uV, uV, uV, uV, uV, uV, uV, uV], []⟩) (by kernel_rfl) ?_
          refine wpList_nil ?_
          refine hK101 _ _ ?_
          have hq_ := ite_some h; clear h; rcases hq_ with ⟨c103, h⟩ | ⟨c103, h⟩
          · have c103 : vt59 > most94 := c103
            refine wpRwI 44 (x := (decide (vt59 > most94))) (v := true) (by kernel_rfl) (decide_eq_true c103) ?_
            refine condT (by kernel_rfl) ?_
            refine wp_seq_k (fun K104 hK105 => ?_)
            refine wp_region_lit ?_
            refine seqS2 (a' := ⟨#[.agg #[iV vw1.Hi, .int .u64 vw1.Lo], iV d2, .pointer (some ⟨b5, 0, none⟩), uV, iV 0, iV 2, .pointer (some ⟨b19, 0, none⟩), .int .u64 vt59, .int .u64 vt60, .int .u64 most94, iV d2, .bool false, .agg #[iV vw1.Hi, .int .u64 vw1.Lo], .pointer (some ⟨b5, 0, none⟩), iV vw1.Hi, (j43 0), (j43 1), (j43 2), .pointer (some ⟨b19, 0, none⟩), iV x44, .int .u64 (u64 (x44)), iV d2, .int .u64 (u64 (d2)), .bool false, .tuple #[.int .u64 vt59, .int .u64 vt60], .pointer (some ⟨b19, 0, none⟩), iV x44, .int .u64 (u64 (x44)), .pointer (some ⟨b19, 1, none⟩), .int .u64 x45, iV d2, .int .u64 (u64 (d2)), .tuple #[.int .u64 vt59, .int .u64 vt60], .int .u64 vt59, .int .u64 vt60, .pointer (some ⟨b5, 0, none⟩), iV vw1.Hi, (j93 0), (j93 1), (j93 2), (j93 3), (j93 4), .int .u64 vt59, .int .u64 most94, .bool true, uV, uV, uV, uV, uV, uV, uV, uV, uV, uV, uV, uV, uV, uV, uV, uV], []⟩) (by kernel_rfl) ?_
            refine wpList_nil ?_
            refine hK105 _ _ ?_
            refine wp_ret ?_
            refine hret _ _ ?_
            refine ends_still (v := Value.tuple #[.int .i64 0, .int .i64 2]) (by kernel_rfl) (by kernel_rfl) ?_
            have HS132 := HS92.drop
            have HS133 := HS132.drop
            injection h with h
            injection h with h0_ h
            subst h0_ h
            exact ⟨f89, rfl, (L40.trans (L63.trans L90)), HS133⟩
          · have c103 : ¬ (vt59 > most94) := c103
            refine wpRwI 44 (x := (decide (vt59 > most94))) (v := false) (by kernel_rfl) (decide_eq_false c103) ?_
            refine condF (by kernel_rfl) ?_
            refine wp_skip ?_
            refine hK99 _ _ ?_
            refine wp_seq_k (fun K106 hK107 => ?_)
            refine blockK (fun B108 hx109 hn110 hr111 ho112 hp113 => ?_)
            refine wp_seq_k (fun K115 hK116 => ?_)
            refine wp_region_lit ?_
            refine seqL1 (by kernel_rfl) ?_
            refine seqK rfl (does_run (run_load rfl Try.underlying2 rfl (by kernel_rfl : _ = Value.pointer (some ⟨b5, 0, none⟩)) (HS92.u1.cell 0)) ?_)
            refine seqS2 (a' := ⟨#[.agg #[iV vw1.Hi, .int .u64 vw1.Lo], iV d2, .pointer (some ⟨b5, 0, none⟩), uV, iV 0, iV 0, .pointer (some ⟨b19, 0, none⟩), .int .u64 vt59, .int .u64 vt60, .int .u64 most94, iV d2, .bool false, .agg #[iV vw1.Hi, .int .u64 vw1.Lo], .pointer (some ⟨b5, 0, none⟩), iV vw1.Hi, (j43 0), (j43 1), (j43 2), .pointer (some ⟨b19, 0, none⟩), iV x44, .int .u64 (u64 (x44)), iV d2, .int .u64 (u64 (d2)), .bool false, .tuple #[.int .u64 vt59, .int .u64 vt60], .pointer (some ⟨b19, 0, none⟩), iV x44, .int .u64 (u64 (x44)), .pointer (some ⟨b19, 1, none⟩), .int .u64 x45, iV d2, .int .u64 (u64 (d2)), .tuple #[.int .u64 vt59, .int .u64 vt60], .int .u64 vt59, .int .u64 vt60, .pointer (some ⟨b5, 0, none⟩), iV vw1.Hi, (j93 0), (j93 1), (j93 2), (j93 3), (j93 4), .int .u64 vt59, .int .u64 most94, .bool false, .bool (decide (vw1.Hi ≥ 0)), .pointer (some ⟨b5, 0, none⟩), iV vw1.Hi, .bool (decide (vw1.Hi ≥ 0)), uV, uV, uV, uV, uV, uV, uV, uV, uV, uV, uV, uV], []⟩) (by kernel_rfl) ?_
            refine wpList_nil ?_
            refine hK116 _ _ ?_
            have hq_ := ite_some h; clear h; rcases hq_ with ⟨c118, h⟩ | ⟨c118, h⟩
            · have c118 : vw1.Hi ≥ 0 := c118
              refine wpRwI 45 (x := (decide (vw1.Hi ≥ 0))) (v := true) (by kernel_rfl) (decide_eq_true c118) ?_
              refine wpRwI 48 (x := (decide (vw1.Hi ≥ 0))) (v := true) (by kernel_rfl) (decide_eq_true c118) ?_
              refine condT (by kernel_rfl) ?_
              refine wp_seq_k (fun K119 hK120 => ?_)
              refine wp_region_lit ?_
              refine seqS4 (a' := ⟨#[.agg #[iV vw1.Hi, .int .u64 vw1.Lo], iV d2, .pointer (some ⟨b5, 0, none⟩), uV, iV (w64 (vt59)), iV 0, .pointer (some ⟨b19, 0, none⟩), .int .u64 vt59, .int .u64 vt60, .int .u64 most94, iV d2, .bool false, .agg #[iV vw1.Hi, .int .u64 vw1.Lo], .pointer (some ⟨b5, 0, none⟩), iV vw1.Hi, (j43 0), (j43 1), (j43 2), .pointer (some ⟨b19, 0, none⟩), iV x44, .int .u64 (u64 (x44)), iV d2, .int .u64 (u64 (d2)), .bool false, .tuple #[.int .u64 vt59, .int .u64 vt60], .pointer (some ⟨b19, 0, none⟩), iV x44, .int .u64 (u64 (x44)), .pointer (some ⟨b19, 1, none⟩), .int .u64 x45, iV d2, .int .u64 (u64 (d2)), .tuple #[.int .u64 vt59, .int .u64 vt60], .int .u64 vt59, .int .u64 vt60, .pointer (some ⟨b5, 0, none⟩), iV vw1.Hi, (j93 0), (j93 1), (j93 2), (j93 3), (j93 4), .int .u64 vt59, .int .u64 most94, .bool false, .bool true, .pointer (some ⟨b5, 0, none⟩), iV vw1.Hi, .bool true, .int .u64 vt59, iV (w64 (vt59)), uV, uV, uV, uV, uV, uV, uV, uV, uV, uV], []⟩) (by kernel_rfl) ?_
              refine wpList_nil ?_
              refine hK120 _ _ ?_
              refine wp_ret ?_
              refine hr111 _ _ ?_
              refine hret _ _ ?_
              refine ends_still (v := Value.tuple #[.int .i64 (w64 (vt59)), .int .i64 0]) (by kernel_rfl) (by kernel_rfl) ?_
              have HS134 := HS92.drop
              have HS135 := HS134.drop
              injection h with h
              injection h with h0_ h
              subst h0_ h
              exact ⟨f89, rfl, (L40.trans (L63.trans L90)), HS135⟩
            · have c118 : ¬ (vw1.Hi ≥ 0) := c118
              refine wpRwI 45 (x := (decide (vw1.Hi ≥ 0))) (v := false) (by kernel_rfl) (decide_eq_false c118) ?_
              refine wpRwI 48 (x := (decide (vw1.Hi ≥ 0))) (v := false) (by kernel_rfl) (decide_eq_false c118) ?_
              refine condF (by kernel_rfl) ?_
              refine wp_seq_k (fun K121 hK122 => ?_)
              refine wp_region_lit ?_
              refine seqS3 (a' := ⟨#[.agg #[iV vw1.Hi, .int .u64 vw1.Lo], iV d2, .pointer (some ⟨b5, 0, none⟩), uV, iV 0, iV 0, .pointer (some ⟨b19, 0, none⟩), .int .u64 vt59, .int .u64 vt60, .int .u64 most94, iV d2, .bool false, .agg #[iV vw1.Hi, .int .u64 vw1.Lo], .pointer (some ⟨b5, 0, none⟩), iV vw1.Hi, (j43 0), (j43 1), (j43 2), .pointer (some ⟨b19, 0, none⟩), iV x44, .int .u64 (u64 (x44)), iV d2, .int .u64 (u64 (d2)), .bool false, .tuple #[.int .u64 vt59, .int .u64 vt60], .pointer (some ⟨b19, 0, none⟩), iV x44, .int .u64 (u64 (x44)), .pointer (some ⟨b19, 1, none⟩), .int .u64 x45, iV d2, .int .u64 (u64 (d2)), .tuple #[.int .u64 vt59, .int .u64 vt60], .int .u64 vt59, .int .u64 vt60, .pointer (some ⟨b5, 0, none⟩), iV vw1.Hi, (j93 0), (j93 1), (j93 2), (j93 3), (j93 4), .int .u64 vt59, .int .u64 most94, .bool false, .bool false, .pointer (some ⟨b5, 0, none⟩), iV vw1.Hi, .bool false, uV, uV, .bool (decide (vt60 > 0)), .int .u64 vt60, .bool (decide (vt60 > 0)), uV, uV, uV, uV, uV, uV, uV], []⟩) (by kernel_rfl) ?_
              refine wpList_nil ?_
              refine hK122 _ _ ?_
              have hq_ := ite_some h; clear h; rcases hq_ with ⟨c124, h⟩ | ⟨c124, h⟩
              · have c124 : vt60 > 0 := c124
                refine wpRwI 51 (x := (decide (vt60 > 0))) (v := true) (by kernel_rfl) (decide_eq_true c124) ?_
                refine wpRwI 53 (x := (decide (vt60 > 0))) (v := true) (by kernel_rfl) (decide_eq_true c124) ?_
                refine condT (by kernel_rfl) ?_
                refine wp_seq_k (fun K125 hK126 => ?_)
                refine wp_region_lit ?_
                refine seqS6 (a' := ⟨#[.agg #[iV vw1.Hi, .int .u64 vw1.Lo], iV d2, .pointer (some ⟨b5, 0, none⟩), uV, iV (w64 ((w64 (u64 (0 - vt59))) - 1)), iV 0, .pointer (some ⟨b19, 0, none⟩), .int .u64 vt59, .int .u64 vt60, .int .u64 most94, iV d2, .bool false, .agg #[iV vw1.Hi, .int .u64 vw1.Lo], .pointer (some ⟨b5, 0, none⟩), iV vw1.Hi, (j43 0), (j43 1), (j43 2), .pointer (some ⟨b19, 0, none⟩), iV x44, .int .u64 (u64 (x44)), iV d2, .int .u64 (u64 (d2)), .bool false, .tuple #[.int .u64 vt59, .int .u64 vt60], .pointer (some ⟨b19, 0, none⟩), iV x44, .int .u64 (u64 (x44)), .pointer (some ⟨b19, 1, none⟩), .int .u64 x45, iV d2, .int .u64 (u64 (d2)), .tuple #[.int .u64 vt59, .int .u64 vt60], .int .u64 vt59, .int .u64 vt60, .pointer (some ⟨b5, 0, none⟩), iV vw1.Hi, (j93 0), (j93 1), (j93 2), (j93 3), (j93 4), .int .u64 vt59, .int .u64 most94, .bool false, .bool false, .pointer (some ⟨b5, 0, none⟩), iV vw1.Hi, .bool false, uV, uV, .bool true, .int .u64 vt60, .bool true, .int .u64 vt59, .int .u64 (u64 (0 - vt59)), iV (w64 (u64 (0 - vt59))), iV (w64 ((w64 (u64 (0 - vt59))) - 1)), uV, uV, uV], []⟩) (by kernel_rfl) ?_
                refine wpList_nil ?_
                refine hK126 _ _ ?_
                refine wp_ret ?_
                refine hr111 _ _ ?_
                refine hret _ _ ?_
                refine ends_still (v := Value.tuple #[.int .i64 (w64 ((w64 (u64 (0 - vt59))) - 1)), .int .i64 0]) (by kernel_rfl) (by kernel_rfl) ?_
                have HS136 := HS92.drop
                have HS137 := HS136.drop
                injection h with h
                injection h with h0_ h
                subst h0_ h
                exact ⟨f89, rfl, (L40.trans (L63.trans L90)), HS137⟩
              · have c124 : ¬ (vt60 > 0) := c124
                refine wpRwI 51 (x := (decide (vt60 > 0))) (v := false) (by kernel_rfl) (decide_eq_false c124) ?_
                refine wpRwI 53 (x := (decide (vt60 > 0))) (v := false) (by kernel_rfl) (decide_eq_false c124) ?_
                refine condF (by kernel_rfl) ?_
                refine wp_skip ?_
                refine hn110 _ _ ?_
                refine hK107 _ _ ?_
                refine wp_seq_k (fun K127 hK128 => ?_)
                refine wp_region_lit ?_
                refine seqS5 (a' := ⟨#[.agg #[iV vw1.Hi, .int .u64 vw1.Lo], iV d2, .pointer (some ⟨b5, 0, none⟩), uV, iV (w64 (u64 (0 - vt59))), iV 0, .pointer (some ⟨b19, 0, none⟩), .int .u64 vt59, .int .u64 vt60, .int .u64 most94, iV d2, .bool false, .agg #[iV vw1.Hi, .int .u64 vw1.Lo], .pointer (some ⟨b5, 0, none⟩), iV vw1.Hi, (j43 0), (j43 1), (j43 2), .pointer (some ⟨b19, 0, none⟩), iV x44, .int .u64 (u64 (x44)), iV d2, .int .u64 (u64 (d2)), .bool false, .tuple #[.int .u64 vt59, .int .u64 vt60], .pointer (some ⟨b19, 0, none⟩), iV x44, .int .u64 (u64 (x44)), .pointer (some ⟨b19, 1, none⟩), .int .u64 x45, iV d2, .int .u64 (u64 (d2)), .tuple #[.int .u64 vt59, .int .u64 vt60], .int .u64 vt59, .int .u64 vt60, .pointer (some ⟨b5, 0, none⟩), iV vw1.Hi, (j93 0), (j93 1), (j93 2), (j93 3), (j93 4), .int .u64 vt59, .int .u64 most94, .bool false, .bool false, .pointer (some ⟨b5, 0, none⟩), iV vw1.Hi, .bool false, uV, uV, .bool false, .int .u64 vt60, .bool false, uV, uV, uV, uV, .int .u64 vt59, .int .u64 (u64 (0 - vt59)), iV (w64 (u64 (0 - vt59)))], []⟩) (by kernel_rfl) ?_
                refine wpList_nil ?_
                refine hK128 _ _ ?_
                refine wp_ret ?_
                refine hret _ _ ?_
                refine ends_still (v := Value.tuple #[.int .i64 (w64 (u64 (0 - vt59))), .int .i64 0]) (by kernel_rfl) (by kernel_rfl) ?_
                have HS138 := HS92.drop
                have HS139 := HS138.drop
                injection h with h
                injection h with h0_ h
                subst h0_ h
                exact ⟨f89, rfl, (L40.trans (L63.trans L90)), HS139⟩
        clear h; have h := hv95; clear hv95
        have hq_ := ite_some h; clear h; rcases hq_ with ⟨c73, h⟩ | ⟨c73, h⟩
        · have c73 : vw1.Hi < 0 := c73
          refine wpRwI 37 (x := (decide (vw1.Hi < 0))) (v := true) (by kernel_rfl) (decide_eq_true c73) ?_
          refine condT (by kernel_rfl) ?_
          refine wp_seq_k (fun K74 hK75 => ?_)
          refine wp_region_lit ?_
          refine seqS1 (a' := ⟨#[.agg #[iV vw1.Hi, .int .u64 vw1.Lo], iV d2, .pointer (some ⟨b5, 0, none⟩), uV, iV 0, iV 0, .pointer (some ⟨b19, 0, none⟩), .int .u64 vt59, .int .u64 vt60, .int .u64 9223372036854775808, iV d2, .bool false, .agg #[iV vw1.Hi, .int .u64 vw1.Lo], .pointer (some ⟨b5, 0, none⟩), iV vw1.Hi, (j43 0), (j43 1), (j43 2), .pointer (some ⟨b19, 0, none⟩), iV x44, .int .u64 (u64 (x44)), iV d2, .int .u64 (u64 (d2)), .bool false, .tuple #[.int .u64 vt59, .int .u64 vt60], .pointer (some ⟨b19, 0, none⟩), iV x44, .int .u64 (u64 (x44)), .pointer (some ⟨b19, 1, none⟩), .int .u64 x45, iV d2, .int .u64 (u64 (d2)), .tuple #[.int .u64 vt59, .int .u64 vt60], .int .u64 vt59, .int .u64 vt60, .pointer (some ⟨b5, 0, none⟩), iV vw1.Hi, .bool true, uV, uV, uV, uV, uV, uV, uV, uV, uV, uV, uV, uV, uV, uV, uV, uV, uV, uV, uV, uV, uV, uV, uV], []⟩) (by kernel_rfl) ?_
          refine wpList_nil ?_
          refine hK75 _ _ ?_
          refine wp_seq_k (fun K76 hK77 => ?_)
          refine wp_region_lit ?_
          refine seqS2 (a' := ⟨#[.agg #[iV vw1.Hi, .int .u64 vw1.Lo], iV d2, .pointer (some ⟨b5, 0, none⟩), uV, iV 0, iV 0, .pointer (some ⟨b19, 0, none⟩), .int .u64 vt59, .int .u64 vt60, .int .u64 9223372036854775808, iV d2, .bool false, .agg #[iV vw1.Hi, .int .u64 vw1.Lo], .pointer (some ⟨b5, 0, none⟩), iV vw1.Hi, (j43 0), (j43 1), (j43 2), .pointer (some ⟨b19, 0, none⟩), iV x44, .int .u64 (u64 (x44)), iV d2, .int .u64 (u64 (d2)), .bool false, .tuple #[.int .u64 vt59, .int .u64 vt60], .pointer (some ⟨b19, 0, none⟩), iV x44, .int .u64 (u64 (x44)), .pointer (some ⟨b19, 1, none⟩), .int .u64 x45, iV d2, .int .u64 (u64 (d2)), .tuple #[.int .u64 vt59, .int .u64 vt60], .int .u64 vt59, .int .u64 vt60, .pointer (some ⟨b5, 0, none⟩), iV vw1.Hi, .bool true, .int .u64 vt60, .bool (decide (vt60 > 0)), uV, uV, uV, uV, uV, uV, uV, uV, uV, uV, uV, uV, uV, uV, uV, uV, uV, uV, uV, uV, uV], []⟩) (by kernel_rfl) ?_
          refine wpList_nil ?_
          refine hK77 _ _ ?_
          have hq_ := bind_some h; clear h; obtain ⟨v78, hv86, h⟩ := hq_
          have J87 : ∀ (f80 : FM) (most85 : Int) (j84 : Nat → Value) (W82 : World) (a_ : Act), FM.le f62 f80 → some (most85) = some v78 → St t W82 f80 ([(b19, .cells #[.int .i64 x44, .int .u64 x45] 95 (0, 0))] :: [(b5, .cells #[.int .i64 vw1.Hi, .int .u64 vw1.Lo] 95 (0, 0))] :: H) → a_ = ⟨#[.agg #[iV vw1.Hi, .int .u64 vw1.Lo], iV d2, .pointer (some ⟨b5, 0, none⟩), uV, iV 0, iV 0, .pointer (some ⟨b19, 0, none⟩), .int .u64 vt59, .int .u64 vt60, .int .u64 most85, iV d2, .bool false, .agg #[iV vw1.Hi, .int .u64 vw1.Lo], .pointer (some ⟨b5, 0, none⟩), iV vw1.Hi, (j43 0), (j43 1), (j43 2), .pointer (some ⟨b19, 0, none⟩), iV x44, .int .u64 (u64 (x44)), iV d2, .int .u64 (u64 (d2)), .bool false, .tuple #[.int .u64 vt59, .int .u64 vt60], .pointer (some ⟨b19, 0, none⟩), iV x44, .int .u64 (u64 (x44)), .pointer (some ⟨b19, 1, none⟩), .int .u64 x45, iV d2, .int .u64 (u64 (d2)), .tuple #[.int .u64 vt59, .int .u64 vt60], .int .u64 vt59, .int .u64 vt60, .pointer (some ⟨b5, 0, none⟩), iV vw1.Hi, .bool true, .int .u64 vt60, (j84 0), (j84 1), (j84 2), uV, uV, uV, uV, uV, uV, uV, uV, uV, uV, uV, uV, uV, uV, uV, uV, uV, uV, uV], []⟩ → K68 a_ W82 := by
            intro f80 most85 j84 W82 a_ L81 hj88 HS83  hfr_; subst hfr_
            injection hj88 with hj88; subst hj88; try dsimp only at h
            exact J96 f80 most85 (fun i_ => [Value.bool true, Value.int .u64 vt60, (j84 0), (j84 1), (j84 2)].getD i_ undef) W82 _ L81 h HS83 (by kernel_rfl)
          clear h; have h := hv86; clear hv86
          have hq_ := ite_some h; clear h; rcases hq_ with ⟨c79, h⟩ | ⟨c79, h⟩
          · have c79 : vt60 > 0 := c79
            refine wpRwI 39 (x := (decide (vt60 > 0))) (v := true) (by kernel_rfl) (decide_eq_true c79) ?_
            refine condT (by kernel_rfl) ?_
            refine wp_region_lit ?_
            refine seqS3 (a' := ⟨#[.agg #[iV vw1.Hi, .int .u64 vw1.Lo], iV d2, .pointer (some ⟨b5, 0, none⟩), uV, iV 0, iV 0, .pointer (some ⟨b19, 0, none⟩), .int .u64 vt59, .int .u64 vt60, .int .u64 (u64 (9223372036854775808 - 1)), iV d2, .bool false, .agg #[iV vw1.Hi, .int .u64 vw1.Lo], .pointer (some ⟨b5, 0, none⟩), iV vw1.Hi, (j43 0), (j43 1), (j43 2), .pointer (some ⟨b19, 0, none⟩), iV x44, .int .u64 (u64 (x44)), iV d2, .int .u64 (u64 (d2)), .bool false, .tuple #[.int .u64 vt59, .int .u64 vt60], .pointer (some ⟨b19, 0, none⟩), iV x44, .int .u64 (u64 (x44)), .pointer (some ⟨b19, 1, none⟩), .int .u64 x45, iV d2, .int .u64 (u64 (d2)), .tuple #[.int .u64 vt59, .int .u64 vt60], .int .u64 vt59, .int .u64 vt60, .pointer (some ⟨b5, 0, none⟩), iV vw1.Hi, .bool true, .int .u64 vt60, .bool true, .int .u64 9223372036854775808, .int .u64 (u64 (9223372036854775808 - 1)), uV, uV, uV, uV, uV, uV, uV, uV, uV, uV, uV, uV, uV, uV, uV, uV, uV, uV, uV], []⟩) (by kernel_rfl) ?_
            refine wpList_nil ?_
            exact J87 f62 (u64 (9223372036854775808 - 1)) (fun i_ => [Value.bool true, Value.int .u64 9223372036854775808, Value.int .u64 (u64 (9223372036854775808 - 1))].getD i_ undef) W64 _ (FM.le.refl _) h HS65 (by kernel_rfl)
          · have c79 : ¬ (vt60 > 0) := c79
            refine wpRwI 39 (x := (decide (vt60 > 0))) (v := false) (by kernel_rfl) (decide_eq_false c79) ?_
            refine condF (by kernel_rfl) ?_
            refine wp_skip ?_
            exact J87 f62 9223372036854775808 (fun i_ => [Value.bool false, undef, undef].getD i_ undef) W64 _ (FM.le.refl _) h HS65 (by kernel_rfl)
        · have c73 : ¬ (vw1.Hi < 0) := c73
          refine wpRwI 37 (x := (decide (vw1.Hi < 0))) (v := false) (by kernel_rfl) (decide_eq_false c73) ?_
          refine condF (by kernel_rfl) ?_
          refine wp_skip ?_
          exact J96 f62 9223372036854775807 (fun i_ => [Value.bool false, undef, undef, undef, undef].getD i_ undef) W64 _ (FM.le.refl _) h HS65 (by kernel_rfl)
    clear h; have h := hv46; clear hv46
    have hq_ := ite_some h; clear h; rcases hq_ with ⟨c30, h⟩ | ⟨c30, h⟩
    · have c30 : vw1.Hi < 0 := c30
      refine wpRwI 15 (x := (decide (vw1.Hi < 0))) (v := true) (by kernel_rfl) (decide_eq_true c30) ?_
      refine condT (by kernel_rfl) ?_
      refine wp_region_lit ?_
      refine seqK rfl (does_run (run_loadN (n := 2) rfl Try.underlying95 rfl (by kernel_rfl) (by kernel_rfl : _ = Value.pointer (some ⟨b5, 0, none⟩)) (cs := [.int .i64 vw1.Hi, .int .u64 vw1.Lo]) rfl (HS24.u1.cells 0 2 _ rfl)) ?_)
      have hq_ := bind_some h; clear h; obtain ⟨vt31, hc32, h⟩ := hq_
      refine seqK rfl (does_call (f := 56) (args := #[.agg #[.int .i64 vw1.Hi, .int .u64 vw1.Lo]]) (by kernel_rfl) (num_Wide_Neg.calls k vw1 HS24 vt31 hc32) ?_)
      rintro _ W35 ⟨f33, rfl, L34, HS36⟩
      refine ⟨_, rfl, ?_⟩
      refine seqK rfl (does_store (n := 2) (vs := [.int .i64 vt31.Hi, .int .u64 vt31.Lo]) (cs' := #[.int .i64 vt31.Hi, .int .u64 vt31.Lo]) rfl (by kernel_rfl) (by kernel_rfl : _ = Value.pointer (some ⟨b19, 0, none⟩)) (by kernel_rfl : _ = Value.agg #[.int .i64 vt31.Hi, .int .u64 vt31.Lo]) rfl rfl (by intro u_ hu_; simp only [List.mem_cons, List.not_mem_nil, or_false] at hu_; rcases hu_ with rfl | rfl <;> rfl) HS36 (Nat.le_of_ble_eq_true rfl) (by kernel_rfl) ?_)
      intro W37 HS38
      refine wpList_nil ?_
      exact J47 f33 vt31.Hi vt31.Lo (fun i_ => [Value.bool true, Value.agg #[.int .i64 vw1.Hi, .int .u64 vw1.Lo], Value.agg #[.int .i64 vt31.Hi, .int .u64 vt31.Lo]].getD i_ undef) W37 _ L34 h HS38 (by kernel_rfl)
    · have c30 : ¬ (vw1.Hi < 0) := c30
      refine wpRwI 15 (x := (decide (vw1.Hi < 0))) (v := false) (by kernel_rfl) (decide_eq_false c30) ?_
      refine condF (by kernel_rfl) ?_
      refine wp_skip ?_
      exact J47 f vw1.Hi vw1.Lo (fun i_ => [Value.bool false, undef, undef].getD i_ undef) W23 _ (FM.le.refl _) h HS24 (by kernel_rfl)

set_option maxRecDepth 100000 in
set_option maxHeartbeats 4000000 in
theorem num_MulDiv.calls (k : Nat)  (a1 : Int) (b2 : Int) (c3 : Int) {t w : World} {f : FM} {H : List Seg} (HS : St t w f (H)) (r1 : Int) (r2 : Int) (h : num_MulDiv k a1 b2 c3 = some (r1, r2)) :
    Calls Try.prog 29 #[.int .i64 a1, .int .i64 b2, .int .i64 c3] w (fun e w' => ∃ (g : FM), e = .returned (Value.tuple #[.int .i64 r1, .int .i64 r2]) ∧ FM.le f g ∧ St t w' g (H)) := by
  unfold num_MulDiv at h
  refine enter Try.func29 rfl (tm := #[iV a1, iV b2, iV c3, uV, uV, uV, uV, uV, uV, uV, uV, uV, uV, uV, uV]) (by kernel_rfl) ?_
  intro B hret hnor hnp
  refine wp_seq_k (fun K4 hK5 => ?_)
  refine wp_region_lit ?_
  refine seqS2 (a' := ⟨#[iV a1, iV b2, iV c3, uV, uV, uV, iV 0, iV 0, uV, uV, uV, uV, uV, uV, uV], []⟩) (by kernel_rfl) ?_
  refine wpList_nil ?_
  refine hK5 _ _ ?_
  refine wp_seq_k (fun K6 hK7 => ?_)
  refine wp_region_lit ?_
  have hq_ := bind_some h; clear h; obtain ⟨vt8, hc9, h⟩ := hq_
  refine seqL2 (by kernel_rfl) ?_
  refine seqK rfl (does_call (f := 45) (args := #[.int .i64 a1, .int .i64 b2]) (by kernel_rfl) (num_Product.calls k a1 b2 HS vt8 hc9) ?_)
  rintro _ W12 ⟨f10, rfl, L11, HS13⟩
  refine ⟨_, rfl, ?_⟩
  have hq_ := bind_some h; clear h; obtain ⟨⟨vt14, vt15⟩, hc16, h⟩ := hq_
  refine seqL1 (by kernel_rfl) ?_
  refine seqK rfl (does_call (f := 46) (args := #[.agg #[.int .i64 vt8.Hi, .int .u64 vt8.Lo], .int .i64 c3]) (by kernel_rfl) (num_Wide_Div.calls k vt8 c3 HS13 vt14 vt15 hc16) ?_)
  rintro _ W19 ⟨f17, rfl, L18, HS20⟩
  refine ⟨_, rfl, ?_⟩
  refine seqS4 (a' := ⟨#[iV a1, iV b2, iV c3, uV, uV, uV, iV vt14, iV vt15, iV a1, iV b2, .agg #[iV vt8.Hi, .int .u64 vt8.Lo], iV c3, .tuple #[iV vt14, iV vt15], iV vt14, iV vt15], []⟩) (by kernel_rfl) ?_
  refine wpList_nil ?_
  refine hK7 _ _ ?_
  refine wp_ret ?_
  refine hret _ _ ?_
  refine ends_still (v := Value.tuple #[.int .i64 vt14, .int .i64 vt15]) (by kernel_rfl) (by kernel_rfl) ?_
  injection h with h
  injection h with h0_ h
  subst h0_ h
  exact ⟨f17, rfl, (L11.trans L18), HS20⟩

set_option maxRecDepth 100000 in
set_option maxHeartbeats 4000000 in
theorem sky_Pull_1.calls (k : Nat) (b1 : Nat) (v3 : Int) (x4 : Int) {t w : World} {f : FM} {H : List Seg} (HS : St t w f ([(b1, .cells #[.int .i64 v3] 2 (0, 0))] :: H)) (r1 : Int) (h : sky_Pull_1 k v3 x4 = some r1) :
    Calls Try.prog 28 #[.int .i64 x4, .pointer (some ⟨b1, 0, none⟩)] w (fun e w' => ∃ (g : FM), e = .returned (Value.int .i64 r1) ∧ FM.le f g ∧ St t w' g ([(b1, .cells #[.int .i64 v3] 2 (0, 0))] :: H)) := by
  unfold sky_Pull_1 at h
  refine enter Try.func28 rfl (tm := #[iV x4, .pointer (some ⟨b1, 0, none⟩), uV, uV, uV, uV, uV, uV, uV, uV, uV, uV, uV, uV, uV, uV, uV, uV, uV, uV, uV, uV, uV, uV, uV]) (by kernel_rfl) ?_
  intro B hret hnor hnp
  refine wp_seq_k (fun K5 hK6 => ?_)
  refine wp_region_lit ?_
  refine seqS1 (a' := ⟨#[iV x4, .pointer (some ⟨b1, 0, none⟩), uV, iV 0, uV, uV, uV, uV, uV, uV, uV, uV, uV, uV, uV, uV, uV, uV, uV, uV, uV, uV, uV, uV, uV], []⟩) (by kernel_rfl) ?_
  refine wpList_nil ?_
  refine hK6 _ _ ?_
  refine wp_seq_k (fun K7 hK8 => ?_)
  refine wp_region_lit ?_
  refine seqL4 (by kernel_rfl) ?_
  refine seqK rfl (does_run (run_load rfl Try.underlying2 rfl (by kernel_rfl : _ = Value.pointer (some ⟨b1, 0, none⟩)) (HS.cell 0)) ?_)
  have hq_ := bind_some h; clear h; obtain ⟨⟨vt9, vt10⟩, hc11, h⟩ := hq_
  refine seqK rfl (does_call (f := 29) (args := #[.int .i64 9007199254740992, .int .i64 (mx x4 (w64 (0 - x4))), .int .i64 v3]) (by kernel_rfl) (num_MulDiv.calls k 9007199254740992 (mx x4 (w64 (0 - x4))) v3 HS vt9 vt10 hc11) ?_)
  rintro _ W14 ⟨f12, rfl, L13, HS15⟩
  refine ⟨_, rfl, ?_⟩
  refine seqS5 (a' := ⟨#[iV x4, .pointer (some ⟨b1, 0, none⟩), uV, iV 0, iV vt9, iV vt10, .tuple #[iV vt9, iV vt10], iV x4, iV x4, iV (w64 (0 - x4)), iV (mx x4 (w64 (0 - x4))), iV v3, .tuple #[iV vt9, iV vt10], iV vt9, iV vt10, uV, uV, uV, uV, uV, uV, uV, uV, uV, uV], []⟩) (by kernel_rfl) ?_
  refine wpList_nil ?_
  refine hK8 _ _ ?_
  refine wp_seq_k (fun K16 hK17 => ?_)
  refine wp_region_lit ?_
  refine seqL1 (by kernel_rfl) ?_
  refine seqK rfl (does_run (run_load rfl Try.underlying2 rfl (by kernel_rfl : _ = Value.pointer (some ⟨b1, 0, none⟩)) (HS15.cell 0)) ?_)
  refine seqK rfl (does_run (run_load rfl Try.underlying2 rfl (by kernel_rfl : _ = Value.pointer (some ⟨b1, 0, none⟩)) (HS15.cell 0)) ?_)
  have hq_ := guard_some h; clear h; obtain ⟨c18, h⟩ := hq_
  have c18 : ¬ ((w64 (v3 * v3)) = 0) := c18
  refine seqL1 (by kernel_rfl) ?_
  refine seqK rfl (does_run (run_div rfl (by kernel_rfl : _ = Value.int .i64 vt9) (by kernel_rfl : _ = Value.int .i64 (w64 (v3 * v3))) c18 W14) ?_)
  refine seqS1 (a' := ⟨#[iV x4, .pointer (some ⟨b1, 0, none⟩), uV, iV 0, iV (w64 (Int.tdiv vt9 (w64 (v3 * v3)))), iV vt10, .tuple #[iV vt9, iV vt10], iV x4, iV x4, iV (w64 (0 - x4)), iV (mx x4 (w64 (0 - x4))), iV v3, .tuple #[iV vt9, iV vt10], iV vt9, iV vt10, iV vt9, iV v3, iV v3, iV (w64 (v3 * v3)), iV (w64 (Int.tdiv vt9 (w64 (v3 * v3)))), uV, uV, uV, uV, uV], []⟩) (by kernel_rfl) ?_
  refine wpList_nil ?_
  refine hK17 _ _ ?_
  refine wp_seq_k (fun K19 hK20 => ?_)
  refine wp_seq_k (fun K21 hK22 => ?_)
  refine wp_region_lit ?_
  refine seqS2 (a' := ⟨#[iV x4, .pointer (some ⟨b1, 0, none⟩), uV, iV 0, iV (w64 (Int.tdiv vt9 (w64 (v3 * v3)))), iV vt10, .tuple #[iV vt9, iV vt10], iV x4, iV x4, iV (w64 (0 - x4)), iV (mx x4 (w64 (0 - x4))), iV v3, .tuple #[iV vt9, iV vt10], iV vt9, iV vt10, iV vt9, iV v3, iV v3, iV (w64 (v3 * v3)), iV (w64 (Int.tdiv vt9 (w64 (v3 * v3)))), iV x4, .bool (decide (x4 > 0)), uV, uV, uV], []⟩) (by kernel_rfl) ?_
  refine wpList_nil ?_
  refine hK22 _ _ ?_
  have hq_ := ite_some h; clear h; rcases hq_ with ⟨c24, h⟩ | ⟨c24, h⟩
  · have c24 : x4 > 0 := c24
    refine wpRwI 21 (x := (decide (x4 > 0))) (v := true) (by kernel_rfl) (decide_eq_true c24) ?_
    refine condT (by kernel_rfl) ?_
    refine wp_seq_k (fun K25 hK26 => ?_)
    refine wp_region_lit ?_
    refine seqS3 (a' := ⟨#[iV x4, .pointer (some ⟨b1, 0, none⟩), uV, iV (w64 (0 - (w64 (Int.tdiv vt9 (w64 (v3 * v3)))))), iV (w64 (Int.tdiv vt9 (w64 (v3 * v3)))), iV vt10, .tuple #[iV vt9, iV vt10], iV x4, iV x4, iV (w64 (0 - x4)), iV (mx x4 (w64 (0 - x4))), iV v3, .tuple #[iV vt9, iV vt10], iV vt9, iV vt10, iV vt9, iV v3, iV v3, iV (w64 (v3 * v3)), iV (w64 (Int.tdiv vt9 (w64 (v3 * v3)))), iV x4, .bool true, iV (w64 (Int.tdiv vt9 (w64 (v3 * v3)))), iV (w64 (0 - (w64 (Int.tdiv vt9 (w64 (v3 * v3)))))), uV], []⟩) (by kernel_rfl) ?_
    refine wpList_nil ?_
    refine hK26 _ _ ?_
    refine wp_ret ?_
    refine hret _ _ ?_
    refine ends_still (v := Value.int .i64 (w64 (0 - (w64 (Int.tdiv vt9 (w64 (v3 * v3))))))) (by kernel_rfl) (by kernel_rfl) ?_
    injection h with h
    subst h
    exact ⟨f12, rfl, L13, HS15⟩
  · have c24 : ¬ (x4 > 0) := c24
    refine wpRwI 21 (x := (decide (x4 > 0))) (v := false) (by kernel_rfl) (decide_eq_false c24) ?_
    refine condF (by kernel_rfl) ?_
    refine wp_skip ?_
    refine hK20 _ _ ?_
    refine wp_seq_k (fun K27 hK28 => ?_)
    refine wp_region_lit ?_
    refine seqS2 (a' := ⟨#[iV x4, .pointer (some ⟨b1, 0, none⟩), uV, iV (w64 (Int.tdiv vt9 (w64 (v3 * v3)))), iV (w64 (Int.tdiv vt9 (w64 (v3 * v3)))), iV vt10, .tuple #[iV vt9, iV vt10], iV x4, iV x4, iV (w64 (0 - x4)), iV (mx x4 (w64 (0 - x4))), iV v3, .tuple #[iV vt9, iV vt10], iV vt9, iV vt10, iV vt9, iV v3, iV v3, iV (w64 (v3 * v3)), iV (w64 (Int.tdiv vt9 (w64 (v3 * v3)))), iV x4, .bool false, uV, uV, iV (w64 (Int.tdiv vt9 (w64 (v3 * v3))))], []⟩) (by kernel_rfl) ?_
    refine wpList_nil ?_
    refine hK28 _ _ ?_
    refine wp_ret ?_
    refine hret _ _ ?_
    refine ends_still (v := Value.int .i64 (w64 (Int.tdiv vt9 (w64 (v3 * v3))))) (by kernel_rfl) (by kernel_rfl) ?_
    injection h with h
    subst h
    exact ⟨f12, rfl, L13, HS15⟩

set_option maxRecDepth 100000 in
set_option maxHeartbeats 4000000 in
theorem sky_Pull.calls (k : Nat)  (vat1 : S_Vec) {t w : World} {f : FM} {H : List Seg} (HS : St t w f (H)) (r1 : S_Vec) (h : sky_Pull k vat1 = some r1) :
    Calls Try.prog 10 #[.agg #[.int .i64 vat1.X, .int .i64 vat1.Y, .int .i64 vat1.Z]] w (fun e w' => ∃ (g : FM), e = .returned (Value.agg #[.int .i64 r1.X, .int .i64 r1.Y, .int .i64 r1.Z]) ∧ FM.le f g ∧ St t w' g (H)) := by
  unfold sky_Pull at h
  refine enter Try.func10 rfl (tm := #[.agg #[iV vat1.X, iV vat1.Y, iV vat1.Z], uV, uV, uV, uV, uV, uV, uV, uV, uV, uV, uV, uV, uV, uV, uV, uV, uV, uV, uV, uV, uV, uV, uV, uV, uV, uV, uV, uV, uV, uV, uV, uV, uV, uV, uV, uV, uV, uV, uV, uV, uV, uV, uV]) (by kernel_rfl) ?_
  intro B hret hnor hnp
  refine wp_seq_k (fun K2 hK3 => ?_)
  refine wp_region_lit ?_
  refine seqK rfl (does_box (cs := #[.int .i64 vat1.X, .int .i64 vat1.Y, .int .i64 vat1.Z]) rfl (by kernel_rfl : _ = Value.agg #[.int .i64 vat1.X, .int .i64 vat1.Y, .int .i64 vat1.Z]) rfl HS ?_)
  intro b4 W5 HS6
  refine seqK rfl (does_alloc (z := Value.agg #[.int .i64 0, .int .i64 0, .int .i64 0]) (cs := #[.int .i64 0, .int .i64 0, .int .i64 0]) rfl (by kernel_rfl) rfl HS6 ?_)
  intro b8 W9 HS10
  refine wpList_nil ?_
  refine hK3 _ _ ?_
  refine wp_seq_k (fun K12 hK13 => ?_)
  refine wp_seq_k (fun K14 hK15 => ?_)
  refine wp_region_lit ?_
  refine seqK rfl (does_run (run_loadN (n := 3) rfl Try.underlying23 rfl (by kernel_rfl) (by kernel_rfl : _ = Value.pointer (some ⟨b4, 0, none⟩)) (cs := [.int .i64 vat1.X, .int .i64 vat1.Y, .int .i64 vat1.Z]) rfl (HS10.u1.cells 0 3 _ rfl)) ?_)
  have hq_ := bind_some h; clear h; obtain ⟨vt16, hc17, h⟩ := hq_
  refine seqK rfl (does_call (f := 26) (args := #[.agg #[.int .i64 vat1.X, .int .i64 vat1.Y, .int .i64 vat1.Z], .int .i64 4194304]) (by kernel_rfl) (sky_within.calls k vat1 4194304 HS10 vt16 hc17) ?_)
  rintro _ W20 ⟨f18, rfl, L19, HS21⟩
  refine ⟨_, rfl, ?_⟩
  refine seqS1 (a' := ⟨#[.agg #[iV vat1.X, iV vat1.Y, iV vat1.Z], .pointer (some ⟨b4, 0, none⟩), .pointer (some ⟨b8, 0, none⟩), uV, uV, .agg #[iV vat1.X, iV vat1.Y, iV vat1.Z], .bool vt16, .bool (!vt16), uV, uV, uV, uV, uV, uV, uV, uV, uV, uV, uV, uV, uV, uV, uV, uV, uV, uV, uV, uV, uV, uV, uV, uV, uV, uV, uV, uV, uV, uV, uV, uV, uV, uV, uV, uV], []⟩) (by kernel_rfl) ?_
  refine wpList_nil ?_
  refine hK15 _ _ ?_
  have hq_ := ite_some h; clear h; rcases hq_ with ⟨c23, h⟩ | ⟨c23, h⟩
  · have c23 : ¬ (vt16 = true) := c23
    refine wpRwI 7 (x := (!vt16)) (v := true) (by kernel_rfl) (congrArg (fun b_ => !b_) (show vt16 = false from (Bool.eq_false_iff.mpr c23)) : (!vt16) = true) ?_
    refine condT (by kernel_rfl) ?_
    refine wp_seq_k (fun K24 hK25 => ?_)
    refine wp_region_lit ?_
    refine seqL1 (by kernel_rfl) ?_
    refine seqK rfl (does_store (n := 3) (vs := [.int .i64 0, .int .i64 0, .int .i64 0]) (cs' := #[.int .i64 0, .int .i64 0, .int .i64 0]) rfl (by kernel_rfl) (by kernel_rfl : _ = Value.pointer (some ⟨b8, 0, none⟩)) (by kernel_rfl : _ = Value.agg #[.int .i64 0, .int .i64 0, .int .i64 0]) rfl rfl (by intro u_ hu_; simp only [List.mem_cons, List.not_mem_nil, or_false] at hu_; rcases hu_ with rfl | rfl | rfl <;> rfl) HS21 (Nat.le_of_ble_eq_true rfl) (by kernel_rfl) ?_)
    intro W26 HS27
    refine wpList_nil ?_
    refine hK25 _ _ ?_
    refine wp_ret ?_
    refine hret _ _ ?_
    refine ends (v := Value.agg #[.int .i64 0, .int .i64 0, .int .i64 0]) (results1 (q1 := .cell 2 23) (by kernel_rfl) (resN (n := 3) (cs := [.int .i64 0, .int .i64 0, .int .i64 0]) (by kernel_rfl : _ = Value.pointer (some ⟨b8, 0, none⟩)) Try.underlying23 rfl (by kernel_rfl) rfl (HS27.cells 0 3 _ rfl))) (by kernel_rfl) ?_
    have HS94 := HS27.drop
    have HS95 := HS94.drop
    injection h with h
    subst h
    exact ⟨f18, rfl, L19, HS95⟩
  · have c23 : ¬ (¬ (vt16 = true)) := c23
    refine wpRwI 7 (x := (!vt16)) (v := false) (by kernel_rfl) (congrArg (fun b_ => !b_) (show vt16 = true from (Decidable.of_not_not c23)) : (!vt16) = false) ?_
    refine condF (by kernel_rfl) ?_
    refine wp_skip ?_
    refine hK13 _ _ ?_
    refine wp_seq_k (fun K28 hK29 => ?_)
    refine wp_region_lit ?_
    refine seqL1 (by kernel_rfl) ?_
    refine seqK rfl (does_run (run_load rfl Try.underlying2 rfl (by kernel_rfl : _ = Value.pointer (some ⟨b4, 0, none⟩)) (HS21.u1.cell 0)) ?_)
    refine seqL1 (by kernel_rfl) ?_
    refine seqK rfl (does_run (run_load rfl Try.underlying2 rfl (by kernel_rfl : _ = Value.pointer (some ⟨b4, 0, none⟩)) (HS21.u1.cell 0)) ?_)
    refine seqL2 (by kernel_rfl) ?_
    refine seqK rfl (does_run (run_load rfl Try.underlying2 rfl (by kernel_rfl : _ = Value.pointer (some ⟨b4, 1, none⟩)) (HS21.u1.cell 1)) ?_)
    refine seqL1 (by kernel_rfl) ?_
    refine seqK rfl (does_run (run_load rfl Try.underlying2 rfl (by kernel_rfl : _ = Value.pointer (some ⟨b4, 1, none⟩)) (HS21.u1.cell 1)) ?_)
    refine seqL3 (by kernel_rfl) ?_
    refine seqK rfl (does_run (run_load rfl Try.underlying2 rfl (by kernel_rfl : _ = Value.pointer (some ⟨b4, 2, none⟩)) (HS21.u1.cell 2)) ?_)
    refine seqL1 (by kernel_rfl) ?_
    refine seqK rfl (does_run (run_load rfl Try.underlying2 rfl (by kernel_rfl : _ = Value.pointer (some ⟨b4, 2, none⟩)) (HS21.u1.cell 2)) ?_)
    have hq_ := bind_some h; clear h; obtain ⟨vt30, hc31, h⟩ := hq_
    refine seqL2 (by kernel_rfl) ?_
    refine seqK rfl (does_call (f := 27) (args := #[.int .i64 (w64 ((w64 ((w64 (vat1.X * vat1.X)) + (w64 (vat1.Y * vat1.Y)))) + (w64 (vat1.Z * vat1.Z))))]) (by kernel_rfl) (num_Sqrt.calls k (w64 ((w64 ((w64 (vat1.X * vat1.X)) + (w64 (vat1.Y * vat1.Y)))) + (w64 (vat1.Z * vat1.Z)))) HS21 vt30 hc31) ?_)
    rintro _ W34 ⟨f32, rfl, L33, HS35⟩
    refine ⟨_, rfl, ?_⟩
    refine seqK rfl (does_alloc (z := Value.int .i64 0) (cs := #[.int .i64 0]) rfl (by kernel_rfl) rfl HS35 ?_)
    intro b36 W37 HS38
    refine seqK rfl (does_store (n := 1) (vs := [.int .i64 vt30]) (cs' := #[.int .i64 vt30]) rfl (by kernel_rfl) (by kernel_rfl : _ = Value.pointer (some ⟨b36, 0, none⟩)) (by kernel_rfl : _ = Value.int .i64 vt30) rfl rfl (by intro u_ hu_; simp only [List.mem_cons, List.not_mem_nil, or_false] at hu_; subst hu_; rfl) HS38 (Nat.le_of_ble_eq_true rfl) (by kernel_rfl) ?_)
    intro W40 HS41
    refine wpList_nil ?_
    refine hK29 _ _ ?_
    refine wp_seq_k (fun K42 hK43 => ?_)
    refine wp_seq_k (fun K44 hK45 => ?_)
    refine wp_region_lit ?_
    refine seqK rfl (does_run (run_load rfl Try.underlying2 rfl (by kernel_rfl : _ = Value.pointer (some ⟨b36, 0, none⟩)) (HS41.cell 0)) ?_)
    refine seqS1 (a' := ⟨#[.agg #[iV vat1.X, iV vat1.Y, iV vat1.Z], .pointer (some ⟨b4, 0, none⟩), .pointer (some ⟨b8, 0, none⟩), .pointer (some ⟨b36, 0, none⟩), uV, .agg #[iV vat1.X, iV vat1.Y, iV vat1.Z], .bool vt16, .bool false, uV, .pointer (some ⟨b4, 0, none⟩), iV vat1.X, .pointer (some ⟨b4, 0, none⟩), iV vat1.X, iV (w64 (vat1.X * vat1.X)), .pointer (some ⟨b4, 1, none⟩), iV vat1.Y, .pointer (some ⟨b4, 1, none⟩), iV vat1.Y, iV (w64 (vat1.Y * vat1.Y)), iV (w64 ((w64 (vat1.X * vat1.X)) + (w64 (vat1.Y * vat1.Y)))), .pointer (some ⟨b4, 2, none⟩), iV vat1.Z, .pointer (some ⟨b4, 2, none⟩), iV vat1.Z, iV (w64 (vat1.Z * vat1.Z)), iV (w64 ((w64 ((w64 (vat1.X * vat1.X)) + (w64 (vat1.Y * vat1.Y)))) + (w64 (vat1.Z * vat1.Z)))), iV vt30, iV vt30, .bool (decide (vt30 < 65536)), uV, uV, uV, uV, uV, uV, uV, uV, uV, uV, uV, uV, uV, uV, uV], []⟩) (by kernel_rfl) ?_
    refine wpList_nil ?_
    refine hK45 _ _ ?_
    have hq_ := ite_some h; clear h; rcases hq_ with ⟨c47, h⟩ | ⟨c47, h⟩
    · have c47 : vt30 < 65536 := c47
      refine wpRwI 28 (x := (decide (vt30 < 65536))) (v := true) (by kernel_rfl) (decide_eq_true c47) ?_
      refine condT (by kernel_rfl) ?_
      refine wp_seq_k (fun K48 hK49 => ?_)
      refine wp_region_lit ?_
      have HS50 := HS41.u1
      refine seqL1 (by kernel_rfl) ?_
      refine seqK rfl (does_store (n := 3) (vs := [.int .i64 0, .int .i64 0, .int .i64 0]) (cs' := #[.int .i64 0, .int .i64 0, .int .i64 0]) rfl (by kernel_rfl) (by kernel_rfl : _ = Value.pointer (some ⟨b8, 0, none⟩)) (by kernel_rfl : _ = Value.agg #[.int .i64 0, .int .i64 0, .int .i64 0]) rfl rfl (by intro u_ hu_; simp only [List.mem_cons, List.not_mem_nil, or_false] at hu_; rcases hu_ with rfl | rfl | rfl <;> rfl) HS50 (Nat.le_of_ble_eq_true rfl) (by kernel_rfl) ?_)
      intro W51 HS52
      refine wpList_nil ?_
      refine hK49 _ _ ?_
      refine wp_ret ?_
      refine hret _ _ ?_
      refine ends (v := Value.agg #[.int .i64 0, .int .i64 0, .int .i64 0]) (results1 (q1 := .cell 2 23) (by kernel_rfl) (resN (n := 3) (cs := [.int .i64 0, .int .i64 0, .int .i64 0]) (by kernel_rfl : _ = Value.pointer (some ⟨b8, 0, none⟩)) Try.underlying23 rfl (by kernel_rfl) rfl (HS52.cells 0 3 _ rfl))) (by kernel_rfl) ?_
      have HS96 := HS52.drop
      have HS97 := HS96.drop
      have HS98 := HS97.drop
      injection h with h
      subst h
      exact ⟨f32, rfl, (L19.trans L33), HS98⟩
    · have c47 : ¬ (vt30 < 65536) := c47
      refine wpRwI 28 (x := (decide (vt30 < 65536))) (v := false) (by kernel_rfl) (decide_eq_false c47) ?_
      refine condF (by kernel_rfl) ?_
      refine wp_skip ?_
      refine hK43 _ _ ?_
      refine wp_seq_k (fun K53 hK54 => ?_)
      refine wp_region_lit ?_
      refine seqS2 (a' := ⟨#[.agg #[iV vat1.X, iV vat1.Y, iV vat1.Z], .pointer (some ⟨b4, 0, none⟩), .pointer (some ⟨b8, 0, none⟩), .pointer (some ⟨b36, 0, none⟩), .func (.func 28) #[] #[.pointer (some ⟨b36, 0, none⟩)], .agg #[iV vat1.X, iV vat1.Y, iV vat1.Z], .bool vt16, .bool false, uV, .pointer (some ⟨b4, 0, none⟩), iV vat1.X, .pointer (some ⟨b4, 0, none⟩), iV vat1.X, iV (w64 (vat1.X * vat1.X)), .pointer (some ⟨b4, 1, none⟩), iV vat1.Y, .pointer (some ⟨b4, 1, none⟩), iV vat1.Y, iV (w64 (vat1.Y * vat1.Y)), iV (w64 ((w64 (vat1.X * vat1.X)) + (w64 (vat1.Y * vat1.Y)))), .pointer (some ⟨b4, 2, none⟩), iV vat1.Z, .pointer (some ⟨b4, 2, none⟩), iV vat1.Z, iV (w64 (vat1.Z * vat1.Z)), iV (w64 ((w64 ((w64 (vat1.X * vat1.X)) + (w64 (vat1.Y * vat1.Y)))) + (w64 (vat1.Z * vat1.Z)))), iV vt30, iV vt30, .bool false, uV, .func (.func 28) #[] #[.pointer (some ⟨b36, 0, none⟩)], uV, uV, uV, uV, uV, uV, uV, uV, uV, uV, uV, uV, uV], []⟩) (by kernel_rfl) ?_
      refine wpList_nil ?_
      refine hK54 _ _ ?_
      refine wp_seq_k (fun K55 hK56 => ?_)
      have HS57 := HS41.u2
      have HS58 := HS57.u1
      have HS59 := HS58.u2
      refine heldG (S := Sg t f32 ([(b36, .cells #[.int .i64 vt30] 2 (0, 0))] :: [(b4, .cells #[.int .i64 vat1.X, .int .i64 vat1.Y, .int .i64 vat1.Z] 23 (0, 0))] :: H) [(13, [(b8, .cells #[.int .i64 0, .int .i64 0, .int .i64 0] 23 (0, 0))])]) (n := 14) (by kernel_rfl) rfl HS59 ?_
      intro W60 HS61
      refine takeG [0, 1] (n := 14) (fuel := 12) (l' := #[true, true, false, false, false, false, false, false, false, false, false, false, false, false]) (a' := ⟨#[.agg #[iV vat1.X, iV vat1.Y, iV vat1.Z], .pointer (some ⟨b4, 0, none⟩), .pointer (some ⟨b8, 0, none⟩), .pointer (some ⟨b36, 0, none⟩), .func (.func 28) #[] #[.pointer (some ⟨b36, 0, none⟩)], .agg #[iV vat1.X, iV vat1.Y, iV vat1.Z], .bool vt16, .bool false, uV, .pointer (some ⟨b4, 0, none⟩), iV vat1.X, .pointer (some ⟨b4, 0, none⟩), iV vat1.X, iV (w64 (vat1.X * vat1.X)), .pointer (some ⟨b4, 1, none⟩), iV vat1.Y, .pointer (some ⟨b4, 1, none⟩), iV vat1.Y, iV (w64 (vat1.Y * vat1.Y)), iV (w64 ((w64 (vat1.X * vat1.X)) + (w64 (vat1.Y * vat1.Y)))), .pointer (some ⟨b4, 2, none⟩), iV vat1.Z, .pointer (some ⟨b4, 2, none⟩), iV vat1.Z, iV (w64 (vat1.Z * vat1.Z)), iV (w64 ((w64 ((w64 (vat1.X * vat1.X)) + (w64 (vat1.Y * vat1.Y)))) + (w64 (vat1.Z * vat1.Z)))), iV vt30, iV vt30, .bool false, uV, .func (.func 28) #[] #[.pointer (some ⟨b36, 0, none⟩)], .func (.func 28) #[] #[.pointer (some ⟨b36, 0, none⟩)], .pointer (some ⟨b4, 0, none⟩), uV, uV, uV, uV, uV, uV, uV, uV, uV, uV, uV], []⟩) rfl (by kernel_rfl) (by kernel_rfl) (by kernel_rfl) hnp (Sg.g1 (Sx.of [[(b8, .cells #[.int .i64 0, .int .i64 0, .int .i64 0] 23 (0, 0))]] (FM.le.refl _) HS61) (fun _ => St.only [] HS61 (FM.le.refl _))) ?_
      refine takeGQ 2 [] rfl (by kernel_rfl) (by kernel_rfl) (by kernel_rfl) (by kernel_rfl) (by kernel_rfl) (by kernel_rfl) hnp (Sg.g1 (Sx.of [[(b8, .cells #[.int .i64 0, .int .i64 0, .int .i64 0] 23 (0, 0))]] (FM.le.refl _) HS61) (fun _ => St.only [] HS61 (FM.le.refl _))) (fun w_ hw_ => by obtain ⟨g_, hl_, hS_⟩ := hw_.st; exact run_load rfl Try.underlying2 rfl (by kernel_rfl : _ = Value.pointer (some ⟨b4, 0, none⟩)) (hS_.u1.cell 0)) ?_
      refine takeG [4, 5] (n := 11) (fuel := 9) (l' := #[true, true, true, false, true, true, false, false, false, false, false, false, false, false]) (a' := ⟨#[.agg #[iV vat1.X, iV vat1.Y, iV vat1.Z], .pointer (some ⟨b4, 0, none⟩), .pointer (some ⟨b8, 0, none⟩), .pointer (some ⟨b36, 0, none⟩), .func (.func 28) #[] #[.pointer (some ⟨b36, 0, none⟩)], .agg #[iV vat1.X, iV vat1.Y, iV vat1.Z], .bool vt16, .bool false, uV, .pointer (some ⟨b4, 0, none⟩), iV vat1.X, .pointer (some ⟨b4, 0, none⟩), iV vat1.X, iV (w64 (vat1.X * vat1.X)), .pointer (some ⟨b4, 1, none⟩), iV vat1.Y, .pointer (some ⟨b4, 1, none⟩), iV vat1.Y, iV (w64 (vat1.Y * vat1.Y)), iV (w64 ((w64 (vat1.X * vat1.X)) + (w64 (vat1.Y * vat1.Y)))), .pointer (some ⟨b4, 2, none⟩), iV vat1.Z, .pointer (some ⟨b4, 2, none⟩), iV vat1.Z, iV (w64 (vat1.Z * vat1.Z)), iV (w64 ((w64 ((w64 (vat1.X * vat1.X)) + (w64 (vat1.Y * vat1.Y)))) + (w64 (vat1.Z * vat1.Z)))), iV vt30, iV vt30, .bool false, uV, .func (.func 28) #[] #[.pointer (some ⟨b36, 0, none⟩)], .func (.func 28) #[] #[.pointer (some ⟨b36, 0, none⟩)], .pointer (some ⟨b4, 0, none⟩), iV vat1.X, uV, .func (.func 28) #[] #[.pointer (some ⟨b36, 0, none⟩)], .pointer (some ⟨b4, 1, none⟩), uV, uV, uV, uV, uV, uV, uV], []⟩) rfl (by kernel_rfl) (by kernel_rfl) (by kernel_rfl) hnp (Sg.g1 (Sx.of [[(b8, .cells #[.int .i64 0, .int .i64 0, .int .i64 0] 23 (0, 0))]] (FM.le.refl _) HS61) (fun _ => St.only [] HS61 (FM.le.refl _))) ?_
      refine takeGQ 6 [] rfl (by kernel_rfl) (by kernel_rfl) (by kernel_rfl) (by kernel_rfl) (by kernel_rfl) (by kernel_rfl) hnp (Sg.g1 (Sx.of [[(b8, .cells #[.int .i64 0, .int .i64 0, .int .i64 0] 23 (0, 0))]] (FM.le.refl _) HS61) (fun _ => St.only [] HS61 (FM.le.refl _))) (fun w_ hw_ => by obtain ⟨g_, hl_, hS_⟩ := hw_.st; exact run_load rfl Try.underlying2 rfl (by kernel_rfl : _ = Value.pointer (some ⟨b4, 1, none⟩)) (hS_.u1.cell 1)) ?_
      refine takeG [8, 9] (n := 8) (fuel := 6) (l' := #[true, true, true, false, true, true, true, false, true, true, false, false, false, false]) (a' := ⟨#[.agg #[iV vat1.X, iV vat1.Y, iV vat1.Z], .pointer (some ⟨b4, 0, none⟩), .pointer (some ⟨b8, 0, none⟩), .pointer (some ⟨b36, 0, none⟩), .func (.func 28) #[] #[.pointer (some ⟨b36, 0, none⟩)], .agg #[iV vat1.X, iV vat1.Y, iV vat1.Z], .bool vt16, .bool false, uV, .pointer (some ⟨b4, 0, none⟩), iV vat1.X, .pointer (some ⟨b4, 0, none⟩), iV vat1.X, iV (w64 (vat1.X * vat1.X)), .pointer (some ⟨b4, 1, none⟩), iV vat1.Y, .pointer (some ⟨b4, 1, none⟩), iV vat1.Y, iV (w64 (vat1.Y * vat1.Y)), iV (w64 ((w64 (vat1.X * vat1.X)) + (w64 (vat1.Y * vat1.Y)))), .pointer (some ⟨b4, 2, none⟩), iV vat1.Z, .pointer (some ⟨b4, 2, none⟩), iV vat1.Z, iV (w64 (vat1.Z * vat1.Z)), iV (w64 ((w64 ((w64 (vat1.X * vat1.X)) + (w64 (vat1.Y * vat1.Y)))) + (w64 (vat1.Z * vat1.Z)))), iV vt30, iV vt30, .bool false, uV, .func (.func 28) #[] #[.pointer (some ⟨b36, 0, none⟩)], .func (.func 28) #[] #[.pointer (some ⟨b36, 0, none⟩)], .pointer (some ⟨b4, 0, none⟩), iV vat1.X, uV, .func (.func 28) #[] #[.pointer (some ⟨b36, 0, none⟩)], .pointer (some ⟨b4, 1, none⟩), iV vat1.Y, uV, .func (.func 28) #[] #[.pointer (some ⟨b36, 0, none⟩)], .pointer (some ⟨b4, 2, none⟩), uV, uV, uV], []⟩) rfl (by kernel_rfl) (by kernel_rfl) (by kernel_rfl) hnp (Sg.g1 (Sx.of [[(b8, .cells #[.int .i64 0, .int .i64 0, .int .i64 0] 23 (0, 0))]] (FM.le.refl _) HS61) (fun _ => St.only [] HS61 (FM.le.refl _))) ?_
      refine takeGQ 10 [] rfl (by kernel_rfl) (by kernel_rfl) (by kernel_rfl) (by kernel_rfl) (by kernel_rfl) (by kernel_rfl) hnp (Sg.g1 (Sx.of [[(b8, .cells #[.int .i64 0, .int .i64 0, .int .i64 0] 23 (0, 0))]] (FM.le.refl _) HS61) (fun _ => St.only [] HS61 (FM.le.refl _))) (fun w_ hw_ => by obtain ⟨g_, hl_, hS_⟩ := hw_.st; exact run_load rfl Try.underlying2 rfl (by kernel_rfl : _ = Value.pointer (some ⟨b4, 2, none⟩)) (hS_.u1.cell 2)) ?_
      have HS62 := HS61.u1
      have hq_ := bind_some h; clear h; obtain ⟨vt63, hc64, h⟩ := hq_
      refine takeGE 3 (by kernel_rfl) rfl (by kernel_rfl) (does_call (f := 28) (args := #[.int .i64 vat1.X, .pointer (some ⟨b36, 0, none⟩)]) (by kernel_rfl) (sky_Pull_1.calls k b36 vt30 vat1.X HS62 vt63 hc64) ?_)
      rintro _ W67 ⟨f65, rfl, L66, HS68⟩
      refine ⟨_, rfl, ?_⟩
      have HS69 := HS68.u2
      have HS70 := HS69.u1
      have HS71 := HS70.u2
      refine ⟨(Sg.g1 (Sx.of [[(b8, .cells #[.int .i64 0, .int .i64 0, .int .i64 0] 23 (0, 0))]] L66 HS71) (fun _ => St.only [] HS71 L66)), ?_⟩
      have HS72 := HS71.u1
      have hq_ := bind_some h; clear h; obtain ⟨vt73, hc74, h⟩ := hq_
      refine takeGE 7 (by kernel_rfl) rfl (by kernel_rfl) (does_call (f := 28) (args := #[.int .i64 vat1.Y, .pointer (some ⟨b36, 0, none⟩)]) (by kernel_rfl) (sky_Pull_1.calls k b36 vt30 vat1.Y HS72 vt73 hc74) ?_)
      rintro _ W77 ⟨f75, rfl, L76, HS78⟩
      refine ⟨_, rfl, ?_⟩
      have HS79 := HS78.u2
      have HS80 := HS79.u1
      have HS81 := HS80.u2
      refine ⟨(Sg.g1 (Sx.of [[(b8, .cells #[.int .i64 0, .int .i64 0, .int .i64 0] 23 (0, 0))]] (L66.trans L76) HS81) (fun _ => St.only [] HS81 (L66.trans L76))), ?_⟩
      have HS82 := HS81.u1
      have hq_ := bind_some h; clear h; obtain ⟨vt83, hc84, h⟩ := hq_
      refine takeGE 11 (by kernel_rfl) rfl (by kernel_rfl) (does_call (f := 28) (args := #[.int .i64 vat1.Z, .pointer (some ⟨b36, 0, none⟩)]) (by kernel_rfl) (sky_Pull_1.calls k b36 vt30 vat1.Z HS82 vt83 hc84) ?_)
      rintro _ W87 ⟨f85, rfl, L86, HS88⟩
      refine ⟨_, rfl, ?_⟩
      have HS89 := HS88.u2
      have HS90 := HS89.u1
      have HS91 := HS90.u2
      refine ⟨(Sg.g1 (Sx.of [[(b8, .cells #[.int .i64 0, .int .i64 0, .int .i64 0] 23 (0, 0))]] (L66.trans (L76.trans L86)) HS91) (fun _ => St.only [] HS91 (L66.trans (L76.trans L86)))), ?_⟩
      refine takeG [12] (n := 2) (fuel := 1) (l' := #[true, true, true, true, true, true, true, true, true, true, true, true, true, false]) (a' := ⟨#[.agg #[iV vat1.X, iV vat1.Y, iV vat1.Z], .pointer (some ⟨b4, 0, none⟩), .pointer (some ⟨b8, 0, none⟩), .pointer (some ⟨b36, 0, none⟩), .func (.func 28) #[] #[.pointer (some ⟨b36, 0, none⟩)], .agg #[iV vat1.X, iV vat1.Y, iV vat1.Z], .bool vt16, .bool false, uV, .pointer (some ⟨b4, 0, none⟩), iV vat1.X, .pointer (some ⟨b4, 0, none⟩), iV vat1.X, iV (w64 (vat1.X * vat1.X)), .pointer (some ⟨b4, 1, none⟩), iV vat1.Y, .pointer (some ⟨b4, 1, none⟩), iV vat1.Y, iV (w64 (vat1.Y * vat1.Y)), iV (w64 ((w64 (vat1.X * vat1.X)) + (w64 (vat1.Y * vat1.Y)))), .pointer (some ⟨b4, 2, none⟩), iV vat1.Z, .pointer (some ⟨b4, 2, none⟩), iV vat1.Z, iV (w64 (vat1.Z * vat1.Z)), iV (w64 ((w64 ((w64 (vat1.X * vat1.X)) + (w64 (vat1.Y * vat1.Y)))) + (w64 (vat1.Z * vat1.Z)))), iV vt30, iV vt30, .bool false, uV, .func (.func 28) #[] #[.pointer (some ⟨b36, 0, none⟩)], .func (.func 28) #[] #[.pointer (some ⟨b36, 0, none⟩)], .pointer (some ⟨b4, 0, none⟩), iV vat1.X, iV vt63, .func (.func 28) #[] #[.pointer (some ⟨b36, 0, none⟩)], .pointer (some ⟨b4, 1, none⟩), iV vat1.Y, iV vt73, .func (.func 28) #[] #[.pointer (some ⟨b36, 0, none⟩)], .pointer (some ⟨b4, 2, none⟩), iV vat1.Z, iV vt83, .agg #[iV vt63, iV vt73, iV vt83]], []⟩) rfl (by kernel_rfl) (by kernel_rfl) (by kernel_rfl) hnp (Sg.g1 (Sx.of [[(b8, .cells #[.int .i64 0, .int .i64 0, .int .i64 0] 23 (0, 0))]] (L66.trans (L76.trans L86)) HS91) (fun _ => St.only [] HS91 (L66.trans (L76.trans L86)))) ?_
      refine takeGE 13 (by kernel_rfl) rfl (by kernel_rfl) (does_store (n := 3) (vs := [.int .i64 vt63, .int .i64 vt73, .int .i64 vt83]) (cs' := #[.int .i64 vt63, .int .i64 vt73, .int .i64 vt83]) rfl (by kernel_rfl) (by kernel_rfl : _ = Value.pointer (some ⟨b8, 0, none⟩)) (by kernel_rfl : _ = Value.agg #[.int .i64 vt63, .int .i64 vt73, .int .i64 vt83]) rfl rfl (by intro u_ hu_; simp only [List.mem_cons, List.not_mem_nil, or_false] at hu_; rcases hu_ with rfl | rfl | rfl <;> rfl) HS91 (Nat.le_of_ble_eq_true rfl) (by kernel_rfl) ?_)
      intro W92 HS93
      refine ⟨(Sg.g1 (Sx.of [[(b8, .cells #[.int .i64 vt63, .int .i64 vt73, .int .i64 vt83] 23 (0, 0))]] (L66.trans (L76.trans L86)) HS93) (fun hl_ => Bool.noConfusion (show true = false from hl_))), ?_⟩
      refine doneG (by kernel_rfl) ?_ _
      refine hK56 _ _ ?_
      refine wp_ret ?_
      refine hret _ _ ?_
      refine ends (v := Value.agg #[.int .i64 vt63, .int .i64 vt73, .int .i64 vt83]) (results1 (q1 := .cell 2 23) (by kernel_rfl) (resN (n := 3) (cs := [.int .i64 vt63, .int .i64 vt73, .int .i64 vt83]) (by kernel_rfl : _ = Value.pointer (some ⟨b8, 0, none⟩)) Try.underlying23 rfl (by kernel_rfl) rfl (HS93.cells 0 3 _ rfl))) (by kernel_rfl) ?_
      have HS99 := HS93.drop
      have HS100 := HS99.drop
      have HS101 := HS100.drop
      injection h with h
      subst h
      exact ⟨f85, rfl, (L19.trans (L33.trans (L66.trans (L76.trans L86)))), HS101⟩

set_option maxRecDepth 100000 in
set_option maxHeartbeats 4000000 in
theorem sky_Step.calls (k : Nat)  (was1 : S_Vec) (here2 : S_Vec) {t w : World} {f : FM} {H : List Seg} (HS : St t w f (H)) (r1 : S_Vec) (r2 : Int) (h : sky_Step k was1 here2 = some (r1, r2)) :
    Calls Try.prog 8 #[.agg #[.int .i64 was1.X, .int .i64 was1.Y, .int .i64 was1.Z], .agg #[.int .i64 here2.X, .int .i64 here2.Y, .int .i64 here2.Z]] w (fun e w' => ∃ (g : FM), e = .returned (Value.tuple #[.agg #[.int .i64 r1.X, .int .i64 r1.Y, .int .i64 r1.Z], .int .i64 r2]) ∧ FM.le f g ∧ St t w' g (H)) := by
  unfold sky_Step at h
  refine enter Try.func8 rfl (tm := #[.agg #[iV was1.X, iV was1.Y, iV was1.Z], .agg #[iV here2.X, iV here2.Y, iV here2.Z], uV, uV, uV, uV, uV, uV, uV, uV, uV, uV, uV, uV, uV, uV, uV, uV, uV, uV, uV, uV, uV, uV, uV, uV, uV, uV, uV, uV, uV, uV, uV, uV, uV, uV, uV, uV, uV, uV, uV, uV, uV, uV, uV, uV, uV, uV, uV, uV, uV, uV]) (by kernel_rfl) ?_
  intro B hret hnor hnp
  refine wp_seq_k (fun K3 hK4 => ?_)
  refine wp_region_lit ?_
  refine seqK rfl (does_box (cs := #[.int .i64 was1.X, .int .i64 was1.Y, .int .i64 was1.Z]) rfl (by kernel_rfl : _ = Value.agg #[.int .i64 was1.X, .int .i64 was1.Y, .int .i64 was1.Z]) rfl HS ?_)
  intro b5 W6 HS7
  refine seqK rfl (does_box (cs := #[.int .i64 here2.X, .int .i64 here2.Y, .int .i64 here2.Z]) rfl (by kernel_rfl : _ = Value.agg #[.int .i64 here2.X, .int .i64 here2.Y, .int .i64 here2.Z]) rfl HS7 ?_)
  intro b9 W10 HS11
  refine seqK rfl (does_alloc (z := Value.agg #[.int .i64 0, .int .i64 0, .int .i64 0]) (cs := #[.int .i64 0, .int .i64 0, .int .i64 0]) rfl (by kernel_rfl) rfl HS11 ?_)
  intro b13 W14 HS15
  refine seqS1 (a' := ⟨#[.agg #[iV was1.X, iV was1.Y, iV was1.Z], .agg #[iV here2.X, iV here2.Y, iV here2.Z], .pointer (some ⟨b5, 0, none⟩), .pointer (some ⟨b9, 0, none⟩), .pointer (some ⟨b13, 0, none⟩), iV 0, uV, uV, uV, uV, uV, uV, uV, uV, uV, uV, uV, uV, uV, uV, uV, uV, uV, uV, uV, uV, uV, uV, uV, uV, uV, uV, uV, uV, uV, uV, uV, uV, uV, uV, uV, uV, uV, uV, uV, uV, uV, uV, uV, uV, uV, uV], []⟩) (by kernel_rfl) ?_
  refine wpList_nil ?_
  refine hK4 _ _ ?_
  refine wp_seq_k (fun K17 hK18 => ?_)
  refine wp_seq_k (fun K19 hK20 => ?_)
  refine wp_region_lit ?_
  refine seqK rfl (does_run (run_loadN (n := 3) rfl Try.underlying23 rfl (by kernel_rfl) (by kernel_rfl : _ = Value.pointer (some ⟨b5, 0, none⟩)) (cs := [.int .i64 was1.X, .int .i64 was1.Y, .int .i64 was1.Z]) rfl (HS15.u2.cells 0 3 _ rfl)) ?_)
  have hq_ := bind_some h; clear h; obtain ⟨vt21, hc22, h⟩ := hq_
  refine seqK rfl (does_call (f := 26) (args := #[.agg #[.int .i64 was1.X, .int .i64 was1.Y, .int .i64 was1.Z], .int .i64 4194304]) (by kernel_rfl) (sky_within.calls k was1 4194304 HS15 vt21 hc22) ?_)
  rintro _ W25 ⟨f23, rfl, L24, HS26⟩
  refine ⟨_, rfl, ?_⟩
  refine seqS2 (a' := ⟨#[.agg #[iV was1.X, iV was1.Y, iV was1.Z], .agg #[iV here2.X, iV here2.Y, iV here2.Z], .pointer (some ⟨b5, 0, none⟩), .pointer (some ⟨b9, 0, none⟩), .pointer (some ⟨b13, 0, none⟩), iV 0, uV, uV, .agg #[iV was1.X, iV was1.Y, iV was1.Z], .bool vt21, .bool (!vt21), .bool (!vt21), uV, uV, uV, uV, uV, uV, uV, uV, uV, uV, uV, uV, uV, uV, uV, uV, uV, uV, uV, uV, uV, uV, uV, uV, uV, uV, uV, uV, uV, uV, uV, uV, uV, uV, uV, uV, uV, uV, uV, uV], []⟩) (by kernel_rfl) ?_
  have hq_ := ite_some h; clear h; rcases hq_ with ⟨c27, h⟩ | ⟨c27, h⟩
  · have c27 : ¬ (vt21 = true) := c27
    refine seqRwI 10 (x := (!vt21)) (v := true) (by kernel_rfl) (congrArg (fun b_ => !b_) (show vt21 = false from (Bool.eq_false_iff.mpr c27)) : (!vt21) = true) ?_
    refine seqRwI 11 (x := (!vt21)) (v := true) (by kernel_rfl) (congrArg (fun b_ => !b_) (show vt21 = false from (Bool.eq_false_iff.mpr c27)) : (!vt21) = true) ?_
    refine seqS4 (a' := ⟨#[.agg #[iV was1.X, iV was1.Y, iV was1.Z], .agg #[iV here2.X, iV here2.Y, iV here2.Z], .pointer (some ⟨b5, 0, none⟩), .pointer (some ⟨b9, 0, none⟩), .pointer (some ⟨b13, 0, none⟩), iV 0, uV, uV, .agg #[iV was1.X, iV was1.Y, iV was1.Z], .bool vt21, .bool true, .bool true, uV, uV, uV, .bool true, uV, uV, uV, uV, uV, uV, uV, uV, uV, uV, uV, uV, uV, uV, uV, uV, uV, uV, uV, uV, uV, uV, uV, uV, uV, uV, uV, uV, uV, uV, uV, uV, uV, uV, uV, uV], []⟩) (by kernel_rfl) ?_
    refine wpList_nil ?_
    refine hK20 _ _ ?_
    refine condT (by kernel_rfl) ?_
    refine wp_seq_k (fun K28 hK29 => ?_)
    refine wp_region_lit ?_
    refine seqL1 (by kernel_rfl) ?_
    refine seqK rfl (does_store (n := 3) (vs := [.int .i64 0, .int .i64 0, .int .i64 0]) (cs' := #[.int .i64 0, .int .i64 0, .int .i64 0]) rfl (by kernel_rfl) (by kernel_rfl : _ = Value.pointer (some ⟨b13, 0, none⟩)) (by kernel_rfl : _ = Value.agg #[.int .i64 0, .int .i64 0, .int .i64 0]) rfl rfl (by intro u_ hu_; simp only [List.mem_cons, List.not_mem_nil, or_false] at hu_; rcases hu_ with rfl | rfl | rfl <;> rfl) HS26 (Nat.le_of_ble_eq_true rfl) (by kernel_rfl) ?_)
    intro W30 HS31
    refine seqS1 (a' := ⟨#[.agg #[iV was1.X, iV was1.Y, iV was1.Z], .agg #[iV here2.X, iV here2.Y, iV here2.Z], .pointer (some ⟨b5, 0, none⟩), .pointer (some ⟨b9, 0, none⟩), .pointer (some ⟨b13, 0, none⟩), iV 4, uV, uV, .agg #[iV was1.X, iV was1.Y, iV was1.Z], .bool vt21, .bool true, .bool true, uV, uV, uV, .bool true, .agg #[iV 0, iV 0, iV 0], uV, uV, uV, uV, uV, uV, uV, uV, uV, uV, uV, uV, uV, uV, uV, uV, uV, uV, uV, uV, uV, uV, uV, uV, uV, uV, uV, uV, uV, uV, uV, uV, uV, uV, uV], []⟩) (by kernel_rfl) ?_
    refine wpList_nil ?_
    refine hK29 _ _ ?_
    refine wp_ret ?_
    refine hret _ _ ?_
    refine ends (v := Value.tuple #[.agg #[.int .i64 0, .int .i64 0, .int .i64 0], .int .i64 4]) (results2 (q1 := .cell 4 23) (q2 := .tmp 5) (by kernel_rfl) (resN (n := 3) (cs := [.int .i64 0, .int .i64 0, .int .i64 0]) (by kernel_rfl : _ = Value.pointer (some ⟨b13, 0, none⟩)) Try.underlying23 rfl (by kernel_rfl) rfl (HS31.cells 0 3 _ rfl)) (resT (by kernel_rfl : _ = Value.int .i64 4))) (by kernel_rfl) ?_
    have HS88 := HS31.drop
    have HS89 := HS88.drop
    have HS90 := HS89.drop
    injection h with h
    injection h with h0_ h
    subst h0_ h
    exact ⟨f23, rfl, L24, HS90⟩
  · have c27 : ¬ (¬ (vt21 = true)) := c27
    refine seqRwI 10 (x := (!vt21)) (v := false) (by kernel_rfl) (congrArg (fun b_ => !b_) (show vt21 = true from (Decidable.of_not_not c27)) : (!vt21) = false) ?_
    refine seqRwI 11 (x := (!vt21)) (v := false) (by kernel_rfl) (congrArg (fun b_ => !b_) (show vt21 = true from (Decidable.of_not_not c27)) : (!vt21) = false) ?_
    refine seqG (by kernel_rfl) (does_run (run_loadN (n := 3) rfl Try.underlying23 rfl (by kernel_rfl) (by kernel_rfl : _ = Value.pointer (some ⟨b9, 0, none⟩)) (cs := [.int .i64 here2.X, .int .i64 here2.Y, .int .i64 here2.Z]) rfl (HS26.u1.cells 0 3 _ rfl)) ?_)
    have hq_ := bind_some h; clear h; obtain ⟨vt32, hc33, h⟩ := hq_
    refine seqG (by kernel_rfl) (does_call (f := 26) (args := #[.agg #[.int .i64 here2.X, .int .i64 here2.Y, .int .i64 here2.Z], .int .i64 4194304]) (by kernel_rfl) (sky_within.calls k here2 4194304 HS26 vt32 hc33) ?_)
    rintro _ W36 ⟨f34, rfl, L35, HS37⟩
    refine ⟨_, rfl, ?_⟩
    refine seqS2 (a' := ⟨#[.agg #[iV was1.X, iV was1.Y, iV was1.Z], .agg #[iV here2.X, iV here2.Y, iV here2.Z], .pointer (some ⟨b5, 0, none⟩), .pointer (some ⟨b9, 0, none⟩), .pointer (some ⟨b13, 0, none⟩), iV 0, uV, uV, .agg #[iV was1.X, iV was1.Y, iV was1.Z], .bool vt21, .bool false, .bool false, .agg #[iV here2.X, iV here2.Y, iV here2.Z], .bool vt32, .bool (!vt32), .bool (!vt32), uV, uV, uV, uV, uV, uV, uV, uV, uV, uV, uV, uV, uV, uV, uV, uV, uV, uV, uV, uV, uV, uV, uV, uV, uV, uV, uV, uV, uV, uV, uV, uV, uV, uV, uV, uV], []⟩) (by kernel_rfl) ?_
    refine wpList_nil ?_
    refine hK20 _ _ ?_
    have hq_ := ite_some h; clear h; rcases hq_ with ⟨c39, h⟩ | ⟨c39, h⟩
    · have c39 : ¬ (vt32 = true) := c39
      refine wpRwI 14 (x := (!vt32)) (v := true) (by kernel_rfl) (congrArg (fun b_ => !b_) (show vt32 = false from (Bool.eq_false_iff.mpr c39)) : (!vt32) = true) ?_
      refine wpRwI 15 (x := (!vt32)) (v := true) (by kernel_rfl) (congrArg (fun b_ => !b_) (show vt32 = false from (Bool.eq_false_iff.mpr c39)) : (!vt32) = true) ?_
      refine condT (by kernel_rfl) ?_
      refine wp_seq_k (fun K40 hK41 => ?_)
      refine wp_region_lit ?_
      refine seqL1 (by kernel_rfl) ?_
      refine seqK rfl (does_store (n := 3) (vs := [.int .i64 0, .int .i64 0, .int .i64 0]) (cs' := #[.int .i64 0, .int .i64 0, .int .i64 0]) rfl (by kernel_rfl) (by kernel_rfl : _ = Value.pointer (some ⟨b13, 0, none⟩)) (by kernel_rfl : _ = Value.agg #[.int .i64 0, .int .i64 0, .int .i64 0]) rfl rfl (by intro u_ hu_; simp only [List.mem_cons, List.not_mem_nil, or_false] at hu_; rcases hu_ with rfl | rfl | rfl <;> rfl) HS37 (Nat.le_of_ble_eq_true rfl) (by kernel_rfl) ?_)
      intro W42 HS43
      refine seqS1 (a' := ⟨#[.agg #[iV was1.X, iV was1.Y, iV was1.Z], .agg #[iV here2.X, iV here2.Y, iV here2.Z], .pointer (some ⟨b5, 0, none⟩), .pointer (some ⟨b9, 0, none⟩), .pointer (some ⟨b13, 0, none⟩), iV 4, uV, uV, .agg #[iV was1.X, iV was1.Y, iV was1.Z], .bool vt21, .bool false, .bool false, .agg #[iV here2.X, iV here2.Y, iV here2.Z], .bool vt32, .bool true, .bool true, .agg #[iV 0, iV 0, iV 0], uV, uV, uV, uV, uV, uV, uV, uV, uV, uV, uV, uV, uV, uV, uV, uV, uV, uV, uV, uV, uV, uV, uV, uV, uV, uV, uV, uV, uV, uV, uV, uV, uV, uV, uV], []⟩) (by kernel_rfl) ?_
      refine wpList_nil ?_
      refine hK41 _ _ ?_
      refine wp_ret ?_
      refine hret _ _ ?_
      refine ends (v := Value.tuple #[.agg #[.int .i64 0, .int .i64 0, .int .i64 0], .int .i64 4]) (results2 (q1 := .cell 4 23) (q2 := .tmp 5) (by kernel_rfl) (resN (n := 3) (cs := [.int .i64 0, .int .i64 0, .int .i64 0]) (by kernel_rfl : _ = Value.pointer (some ⟨b13, 0, none⟩)) Try.underlying23 rfl (by kernel_rfl) rfl (HS43.cells 0 3 _ rfl)) (resT (by kernel_rfl : _ = Value.int .i64 4))) (by kernel_rfl) ?_
      have HS91 := HS43.drop
      have HS92 := HS91.drop
      have HS93 := HS92.drop
      injection h with h
      injection h with h0_ h
      subst h0_ h
      exact ⟨f34, rfl, (L24.trans L35), HS93⟩
    · have c39 : ¬ (¬ (vt32 = true)) := c39
      refine wpRwI 14 (x := (!vt32)) (v := false) (by kernel_rfl) (congrArg (fun b_ => !b_) (show vt32 = true from (Decidable.of_not_not c39)) : (!vt32) = false) ?_
      refine wpRwI 15 (x := (!vt32)) (v := false) (by kernel_rfl) (congrArg (fun b_ => !b_) (show vt32 = true from (Decidable.of_not_not c39)) : (!vt32) = false) ?_
      refine condF (by kernel_rfl) ?_
      refine wp_skip ?_
      refine hK18 _ _ ?_
      refine wp_seq_k (fun K44 hK45 => ?_)
      refine wp_region_lit ?_
      refine seqK rfl (does_run (run_loadN (n := 3) rfl Try.underlying23 rfl (by kernel_rfl) (by kernel_rfl : _ = Value.pointer (some ⟨b9, 0, none⟩)) (cs := [.int .i64 here2.X, .int .i64 here2.Y, .int .i64 here2.Z]) rfl (HS37.u1.cells 0 3 _ rfl)) ?_)
      have hq_ := bind_some h; clear h; obtain ⟨vt46, hc47, h⟩ := hq_
      refine seqK rfl (does_call (f := 10) (args := #[.agg #[.int .i64 here2.X, .int .i64 here2.Y, .int .i64 here2.Z]]) (by kernel_rfl) (sky_Pull.calls k here2 HS37 vt46 hc47) ?_)
      rintro _ W50 ⟨f48, rfl, L49, HS51⟩
      refine ⟨_, rfl, ?_⟩
      refine seqK rfl (does_alloc (z := Value.agg #[.int .i64 0, .int .i64 0, .int .i64 0]) (cs := #[.int .i64 0, .int .i64 0, .int .i64 0]) rfl (by kernel_rfl) rfl HS51 ?_)
      intro b52 W53 HS54
      refine seqK rfl (does_store (n := 3) (vs := [.int .i64 vt46.X, .int .i64 vt46.Y, .int .i64 vt46.Z]) (cs' := #[.int .i64 vt46.X, .int .i64 vt46.Y, .int .i64 vt46.Z]) rfl (by kernel_rfl) (by kernel_rfl : _ = Value.pointer (some ⟨b52, 0, none⟩)) (by kernel_rfl : _ = Value.agg #[.int .i64 vt46.X, .int .i64 vt46.Y, .int .i64 vt46.Z]) rfl rfl (by intro u_ hu_; simp only [List.mem_cons, List.not_mem_nil, or_false] at hu_; rcases hu_ with rfl | rfl | rfl <;> rfl) HS54 (Nat.le_of_ble_eq_true rfl) (by kernel_rfl) ?_)
      intro W56 HS57
      refine wpList_nil ?_
      refine hK45 _ _ ?_
      refine wp_seq_k (fun K58 hK59 => ?_)
      refine wp_region_lit ?_
      refine seqL1 (by kernel_rfl) ?_
      refine seqK rfl (does_run (run_load rfl Try.underlying2 rfl (by kernel_rfl : _ = Value.pointer (some ⟨b9, 0, none⟩)) (HS57.u2.cell 0)) ?_)
      refine seqL2 (by kernel_rfl) ?_
      refine seqK rfl (does_run (run_load rfl Try.underlying2 rfl (by kernel_rfl : _ = Value.pointer (some ⟨b5, 0, none⟩)) (HS57.u3.cell 0)) ?_)
      refine seqL2 (by kernel_rfl) ?_
      refine seqK rfl (does_run (run_load rfl Try.underlying2 rfl (by kernel_rfl : _ = Value.pointer (some ⟨b52, 0, none⟩)) (HS57.cell 0)) ?_)
      refine seqL2 (by kernel_rfl) ?_
      refine seqK rfl (does_run (run_load rfl Try.underlying2 rfl (by kernel_rfl : _ = Value.pointer (some ⟨b9, 1, none⟩)) (HS57.u2.cell 1)) ?_)
      refine seqL2 (by kernel_rfl) ?_
      refine seqK rfl (does_run (run_load rfl Try.underlying2 rfl (by kernel_rfl : _ = Value.pointer (some ⟨b5, 1, none⟩)) (HS57.u3.cell 1)) ?_)
      refine seqL2 (by kernel_rfl) ?_
      refine seqK rfl (does_run (run_load rfl Try.underlying2 rfl (by kernel_rfl : _ = Value.pointer (some ⟨b52, 1, none⟩)) (HS57.cell 1)) ?_)
      refine seqL2 (by kernel_rfl) ?_
      refine seqK rfl (does_run (run_load rfl Try.underlying2 rfl (by kernel_rfl : _ = Value.pointer (some ⟨b9, 2, none⟩)) (HS57.u2.cell 2)) ?_)
      refine seqL2 (by kernel_rfl) ?_
      refine seqK rfl (does_run (run_load rfl Try.underlying2 rfl (by kernel_rfl : _ = Value.pointer (some ⟨b5, 2, none⟩)) (HS57.u3.cell 2)) ?_)
      refine seqL2 (by kernel_rfl) ?_
      refine seqK rfl (does_run (run_load rfl Try.underlying2 rfl (by kernel_rfl : _ = Value.pointer (some ⟨b52, 2, none⟩)) (HS57.cell 2)) ?_)
      refine seqL2 (by kernel_rfl) ?_
      refine seqK rfl (does_alloc (z := Value.agg #[.int .i64 0, .int .i64 0, .int .i64 0]) (cs := #[.int .i64 0, .int .i64 0, .int .i64 0]) rfl (by kernel_rfl) rfl HS57 ?_)
      intro b60 W61 HS62
      refine seqK rfl (does_store (n := 3) (vs := [.int .i64 (w64 ((w64 ((w64 (2 * here2.X)) - was1.X)) + vt46.X)), .int .i64 (w64 ((w64 ((w64 (2 * here2.Y)) - was1.Y)) + vt46.Y)), .int .i64 (w64 ((w64 ((w64 (2 * here2.Z)) - was1.Z)) + vt46.Z))]) (cs' := #[.int .i64 (w64 ((w64 ((w64 (2 * here2.X)) - was1.X)) + vt46.X)), .int .i64 (w64 ((w64 ((w64 (2 * here2.Y)) - was1.Y)) + vt46.Y)), .int .i64 (w64 ((w64 ((w64 (2 * here2.Z)) - was1.Z)) + vt46.Z))]) rfl (by kernel_rfl) (by kernel_rfl : _ = Value.pointer (some ⟨b60, 0, none⟩)) (by kernel_rfl : _ = Value.agg #[.int .i64 (w64 ((w64 ((w64 (2 * here2.X)) - was1.X)) + vt46.X)), .int .i64 (w64 ((w64 ((w64 (2 * here2.Y)) - was1.Y)) + vt46.Y)), .int .i64 (w64 ((w64 ((w64 (2 * here2.Z)) - was1.Z)) + vt46.Z))]) rfl rfl (by intro u_ hu_; simp only [List.mem_cons, List.not_mem_nil, or_false] at hu_; rcases hu_ with rfl | rfl | rfl <;> rfl) HS62 (Nat.le_of_ble_eq_true rfl) (by kernel_rfl) ?_)
      intro W64 HS65
      refine wpList_nil ?_
      refine hK59 _ _ ?_
      refine wp_seq_k (fun K66 hK67 => ?_)
      refine wp_seq_k (fun K68 hK69 => ?_)
      refine wp_region_lit ?_
      refine seqK rfl (does_run (run_loadN (n := 3) rfl Try.underlying23 rfl (by kernel_rfl) (by kernel_rfl : _ = Value.pointer (some ⟨b60, 0, none⟩)) (cs := [.int .i64 (w64 ((w64 ((w64 (2 * here2.X)) - was1.X)) + vt46.X)), .int .i64 (w64 ((w64 ((w64 (2 * here2.Y)) - was1.Y)) + vt46.Y)), .int .i64 (w64 ((w64 ((w64 (2 * here2.Z)) - was1.Z)) + vt46.Z))]) rfl (HS65.cells 0 3 _ rfl)) ?_)
      have hq_ := bind_some h; clear h; obtain ⟨vt70, hc71, h⟩ := hq_
      refine seqK rfl (does_call (f := 26) (args := #[.agg #[.int .i64 (w64 ((w64 ((w64 (2 * here2.X)) - was1.X)) + vt46.X)), .int .i64 (w64 ((w64 ((w64 (2 * here2.Y)) - was1.Y)) + vt46.Y)), .int .i64 (w64 ((w64 ((w64 (2 * here2.Z)) - was1.Z)) + vt46.Z))], .int .i64 4194304]) (by kernel_rfl) (sky_within.calls k (⟨w64 ((w64 ((w64 (2 * here2.X)) - was1.X)) + vt46.X), w64 ((w64 ((w64 (2 * here2.Y)) - was1.Y)) + vt46.Y), w64 ((w64 ((w64 (2 * here2.Z)) - was1.Z)) + vt46.Z)⟩ : S_Vec) 4194304 HS65 vt70 hc71) ?_)
      rintro _ W74 ⟨f72, rfl, L73, HS75⟩
      refine ⟨_, rfl, ?_⟩
      refine seqS1 (a' := ⟨#[.agg #[iV was1.X, iV was1.Y, iV was1.Z], .agg #[iV here2.X, iV here2.Y, iV here2.Z], .pointer (some ⟨b5, 0, none⟩), .pointer (some ⟨b9, 0, none⟩), .pointer (some ⟨b13, 0, none⟩), iV 0, .pointer (some ⟨b52, 0, none⟩), .pointer (some ⟨b60, 0, none⟩), .agg #[iV was1.X, iV was1.Y, iV was1.Z], .bool vt21, .bool false, .bool false, .agg #[iV here2.X, iV here2.Y, iV here2.Z], .bool vt32, .bool false, .bool false, uV, .agg #[iV here2.X, iV here2.Y, iV here2.Z], .agg #[iV vt46.X, iV vt46.Y, iV vt46.Z], .pointer (some ⟨b9, 0, none⟩), iV here2.X, iV (w64 (2 * here2.X)), .pointer (some ⟨b5, 0, none⟩), iV was1.X, iV (w64 ((w64 (2 * here2.X)) - was1.X)), .pointer (some ⟨b52, 0, none⟩), iV vt46.X, iV (w64 ((w64 ((w64 (2 * here2.X)) - was1.X)) + vt46.X)), .pointer (some ⟨b9, 1, none⟩), iV here2.Y, iV (w64 (2 * here2.Y)), .pointer (some ⟨b5, 1, none⟩), iV was1.Y, iV (w64 ((w64 (2 * here2.Y)) - was1.Y)), .pointer (some ⟨b52, 1, none⟩), iV vt46.Y, iV (w64 ((w64 ((w64 (2 * here2.Y)) - was1.Y)) + vt46.Y)), .pointer (some ⟨b9, 2, none⟩), iV here2.Z, iV (w64 (2 * here2.Z)), .pointer (some ⟨b5, 2, none⟩), iV was1.Z, iV (w64 ((w64 (2 * here2.Z)) - was1.Z)), .pointer (some ⟨b52, 2, none⟩), iV vt46.Z, iV (w64 ((w64 ((w64 (2 * here2.Z)) - was1.Z)) + vt46.Z)), .agg #[iV (w64 ((w64 ((w64 (2 * here2.X)) - was1.X)) + vt46.X)), iV (w64 ((w64 ((w64 (2 * here2.Y)) - was1.Y)) + vt46.Y)), iV (w64 ((w64 ((w64 (2 * here2.Z)) - was1.Z)) + vt46.Z))], .agg #[iV (w64 ((w64 ((w64 (2 * here2.X)) - was1.X)) + vt46.X)), iV (w64 ((w64 ((w64 (2 * here2.Y)) - was1.Y)) + vt46.Y)), iV (w64 ((w64 ((w64 (2 * here2.Z)) - was1.Z)) + vt46.Z))], .bool vt70, .bool (!vt70), uV, uV], []⟩) (by kernel_rfl) ?_
      refine wpList_nil ?_
      refine hK69 _ _ ?_
      have hq_ := ite_some h; clear h; rcases hq_ with ⟨c77, h⟩ | ⟨c77, h⟩
      · have c77 : ¬ (vt70 = true) := c77
        refine wpRwI 49 (x := (!vt70)) (v := true) (by kernel_rfl) (congrArg (fun b_ => !b_) (show vt70 = false from (Bool.eq_false_iff.mpr c77)) : (!vt70) = true) ?_
        refine condT (by kernel_rfl) ?_
        refine wp_seq_k (fun K78 hK79 => ?_)
        refine wp_region_lit ?_
        have HS80 := HS75.u2
        refine seqL1 (by kernel_rfl) ?_
        refine seqK rfl (does_store (n := 3) (vs := [.int .i64 0, .int .i64 0, .int .i64 0]) (cs' := #[.int .i64 0, .int .i64 0, .int .i64 0]) rfl (by kernel_rfl) (by kernel_rfl : _ = Value.pointer (some ⟨b13, 0, none⟩)) (by kernel_rfl : _ = Value.agg #[.int .i64 0, .int .i64 0, .int .i64 0]) rfl rfl (by intro u_ hu_; simp only [List.mem_cons, List.not_mem_nil, or_false] at hu_; rcases hu_ with rfl | rfl | rfl <;> rfl) HS80 (Nat.le_of_ble_eq_true rfl) (by kernel_rfl) ?_)
        intro W81 HS82
        refine seqS1 (a' := ⟨#[.agg #[iV was1.X, iV was1.Y, iV was1.Z], .agg #[iV here2.X, iV here2.Y, iV here2.Z], .pointer (some ⟨b5, 0, none⟩), .pointer (some ⟨b9, 0, none⟩), .pointer (some ⟨b13, 0, none⟩), iV 18, .pointer (some ⟨b52, 0, none⟩), .pointer (some ⟨b60, 0, none⟩), .agg #[iV was1.X, iV was1.Y, iV was1.Z], .bool vt21, .bool false, .bool false, .agg #[iV here2.X, iV here2.Y, iV here2.Z], .bool vt32, .bool false, .bool false, uV, .agg #[iV here2.X, iV here2.Y, iV here2.Z], .agg #[iV vt46.X, iV vt46.Y, iV vt46.Z], .pointer (some ⟨b9, 0, none⟩), iV here2.X, iV (w64 (2 * here2.X)), .pointer (some ⟨b5, 0, none⟩), iV was1.X, iV (w64 ((w64 (2 * here2.X)) - was1.X)), .pointer (some ⟨b52, 0, none⟩), iV vt46.X, iV (w64 ((w64 ((w64 (2 * here2.X)) - was1.X)) + vt46.X)), .pointer (some ⟨b9, 1, none⟩), iV here2.Y, iV (w64 (2 * here2.Y)), .pointer (some ⟨b5, 1, none⟩), iV was1.Y, iV (w64 ((w64 (2 * here2.Y)) - was1.Y)), .pointer (some ⟨b52, 1, none⟩), iV vt46.Y, iV (w64 ((w64 ((w64 (2 * here2.Y)) - was1.Y)) + vt46.Y)), .pointer (some ⟨b9, 2, none⟩), iV here2.Z, iV (w64 (2 * here2.Z)), .pointer (some ⟨b5, 2, none⟩), iV was1.Z, iV (w64 ((w64 (2 * here2.Z)) - was1.Z)), .pointer (some ⟨b52, 2, none⟩), iV vt46.Z, iV (w64 ((w64 ((w64 (2 * here2.Z)) - was1.Z)) + vt46.Z)), .agg #[iV (w64 ((w64 ((w64 (2 * here2.X)) - was1.X)) + vt46.X)), iV (w64 ((w64 ((w64 (2 * here2.Y)) - was1.Y)) + vt46.Y)), iV (w64 ((w64 ((w64 (2 * here2.Z)) - was1.Z)) + vt46.Z))], .agg #[iV (w64 ((w64 ((w64 (2 * here2.X)) - was1.X)) + vt46.X)), iV (w64 ((w64 ((w64 (2 * here2.Y)) - was1.Y)) + vt46.Y)), iV (w64 ((w64 ((w64 (2 * here2.Z)) - was1.Z)) + vt46.Z))], .bool vt70, .bool true, .agg #[iV 0, iV 0, iV 0], uV], []⟩) (by kernel_rfl) ?_
        refine wpList_nil ?_
        refine hK79 _ _ ?_
        refine wp_ret ?_
        refine hret _ _ ?_
        refine ends (v := Value.tuple #[.agg #[.int .i64 0, .int .i64 0, .int .i64 0], .int .i64 18]) (results2 (q1 := .cell 4 23) (q2 := .tmp 5) (by kernel_rfl) (resN (n := 3) (cs := [.int .i64 0, .int .i64 0, .int .i64 0]) (by kernel_rfl : _ = Value.pointer (some ⟨b13, 0, none⟩)) Try.underlying23 rfl (by kernel_rfl) rfl (HS82.cells 0 3 _ rfl)) (resT (by kernel_rfl : _ = Value.int .i64 18))) (by kernel_rfl) ?_
        have HS94 := HS82.drop
        have HS95 := HS94.drop
        have HS96 := HS95.drop
        have HS97 := HS96.drop
        have HS98 := HS97.drop
        injection h with h
        injection h with h0_ h
        subst h0_ h
        exact ⟨f72, rfl, (L24.trans (L35.trans (L49.trans L73))), HS98⟩
      · have c77 : ¬ (¬ (vt70 = true)) := c77
        refine wpRwI 49 (x := (!vt70)) (v := false) (by kernel_rfl) (congrArg (fun b_ => !b_) (show vt70 = true from (Decidable.of_not_not c77)) : (!vt70) = false) ?_
        refine condF (by kernel_rfl) ?_
        refine wp_skip ?_
        refine hK67 _ _ ?_
        refine wp_seq_k (fun K83 hK84 => ?_)
        refine wp_region_lit ?_
        refine seqK rfl (does_run (run_loadN (n := 3) rfl Try.underlying23 rfl (by kernel_rfl) (by kernel_rfl : _ = Value.pointer (some ⟨b60, 0, none⟩)) (cs := [.int .i64 (w64 ((w64 ((w64 (2 * here2.X)) - was1.X)) + vt46.X)), .int .i64 (w64 ((w64 ((w64 (2 * here2.Y)) - was1.Y)) + vt46.Y)), .int .i64 (w64 ((w64 ((w64 (2 * here2.Z)) - was1.Z)) + vt46.Z))]) rfl (HS75.cells 0 3 _ rfl)) ?_)
        have HS85 := HS75.u2
        refine seqK rfl (does_store (n := 3) (vs := [.int .i64 (w64 ((w64 ((w64 (2 * here2.X)) - was1.X)) + vt46.X)), .int .i64 (w64 ((w64 ((w64 (2 * here2.Y)) - was1.Y)) + vt46.Y)), .int .i64 (w64 ((w64 ((w64 (2 * here2.Z)) - was1.Z)) + vt46.Z))]) (cs' := #[.int .i64 (w64 ((w64 ((w64 (2 * here2.X)) - was1.X)) + vt46.X)), .int .i64 (w64 ((w64 ((w64 (2 * here2.Y)) - was1.Y)) + vt46.Y)), .int .i64 (w64 ((w64 ((w64 (2 * here2.Z)) - was1.Z)) + vt46.Z))]) rfl (by kernel_rfl) (by kernel_rfl : _ = Value.pointer (some ⟨b13, 0, none⟩)) (by kernel_rfl : _ = Value.agg #[.int .i64 (w64 ((w64 ((w64 (2 * here2.X)) - was1.X)) + vt46.X)), .int .i64 (w64 ((w64 ((w64 (2 * here2.Y)) - was1.Y)) + vt46.Y)), .int .i64 (w64 ((w64 ((w64 (2 * here2.Z)) - was1.Z)) + vt46.Z))]) rfl rfl (by intro u_ hu_; simp only [List.mem_cons, List.not_mem_nil, or_false] at hu_; rcases hu_ with rfl | rfl | rfl <;> rfl) HS85 (Nat.le_of_ble_eq_true rfl) (by kernel_rfl) ?_)
        intro W86 HS87
        refine seqS1 (a' := ⟨#[.agg #[iV was1.X, iV was1.Y, iV was1.Z], .agg #[iV here2.X, iV here2.Y, iV here2.Z], .pointer (some ⟨b5, 0, none⟩), .pointer (some ⟨b9, 0, none⟩), .pointer (some ⟨b13, 0, none⟩), iV 0, .pointer (some ⟨b52, 0, none⟩), .pointer (some ⟨b60, 0, none⟩), .agg #[iV was1.X, iV was1.Y, iV was1.Z], .bool vt21, .bool false, .bool false, .agg #[iV here2.X, iV here2.Y, iV here2.Z], .bool vt32, .bool false, .bool false, uV, .agg #[iV here2.X, iV here2.Y, iV here2.Z], .agg #[iV vt46.X, iV vt46.Y, iV vt46.Z], .pointer (some ⟨b9, 0, none⟩), iV here2.X, iV (w64 (2 * here2.X)), .pointer (some ⟨b5, 0, none⟩), iV was1.X, iV (w64 ((w64 (2 * here2.X)) - was1.X)), .pointer (some ⟨b52, 0, none⟩), iV vt46.X, iV (w64 ((w64 ((w64 (2 * here2.X)) - was1.X)) + vt46.X)), .pointer (some ⟨b9, 1, none⟩), iV here2.Y, iV (w64 (2 * here2.Y)), .pointer (some ⟨b5, 1, none⟩), iV was1.Y, iV (w64 ((w64 (2 * here2.Y)) - was1.Y)), .pointer (some ⟨b52, 1, none⟩), iV vt46.Y, iV (w64 ((w64 ((w64 (2 * here2.Y)) - was1.Y)) + vt46.Y)), .pointer (some ⟨b9, 2, none⟩), iV here2.Z, iV (w64 (2 * here2.Z)), .pointer (some ⟨b5, 2, none⟩), iV was1.Z, iV (w64 ((w64 (2 * here2.Z)) - was1.Z)), .pointer (some ⟨b52, 2, none⟩), iV vt46.Z, iV (w64 ((w64 ((w64 (2 * here2.Z)) - was1.Z)) + vt46.Z)), .agg #[iV (w64 ((w64 ((w64 (2 * here2.X)) - was1.X)) + vt46.X)), iV (w64 ((w64 ((w64 (2 * here2.Y)) - was1.Y)) + vt46.Y)), iV (w64 ((w64 ((w64 (2 * here2.Z)) - was1.Z)) + vt46.Z))], .agg #[iV (w64 ((w64 ((w64 (2 * here2.X)) - was1.X)) + vt46.X)), iV (w64 ((w64 ((w64 (2 * here2.Y)) - was1.Y)) + vt46.Y)), iV (w64 ((w64 ((w64 (2 * here2.Z)) - was1.Z)) + vt46.Z))], .bool vt70, .bool false, uV, .agg #[iV (w64 ((w64 ((w64 (2 * here2.X)) - was1.X)) + vt46.X)), iV (w64 ((w64 ((w64 (2 * here2.Y)) - was1.Y)) + vt46.Y)), iV (w64 ((w64 ((w64 (2 * here2.Z)) - was1.Z)) + vt46.Z))]], []⟩) (by kernel_rfl) ?_
        refine wpList_nil ?_
        refine hK84 _ _ ?_
        refine wp_ret ?_
        refine hret _ _ ?_
        refine ends (v := Value.tuple #[.agg #[.int .i64 (w64 ((w64 ((w64 (2 * here2.X)) - was1.X)) + vt46.X)), .int .i64 (w64 ((w64 ((w64 (2 * here2.Y)) - was1.Y)) + vt46.Y)), .int .i64 (w64 ((w64 ((w64 (2 * here2.Z)) - was1.Z)) + vt46.Z))], .int .i64 0]) (results2 (q1 := .cell 4 23) (q2 := .tmp 5) (by kernel_rfl) (resN (n := 3) (cs := [.int .i64 (w64 ((w64 ((w64 (2 * here2.X)) - was1.X)) + vt46.X)), .int .i64 (w64 ((w64 ((w64 (2 * here2.Y)) - was1.Y)) + vt46.Y)), .int .i64 (w64 ((w64 ((w64 (2 * here2.Z)) - was1.Z)) + vt46.Z))]) (by kernel_rfl : _ = Value.pointer (some ⟨b13, 0, none⟩)) Try.underlying23 rfl (by kernel_rfl) rfl (HS87.cells 0 3 _ rfl)) (resT (by kernel_rfl : _ = Value.int .i64 0))) (by kernel_rfl) ?_
        have HS99 := HS87.drop
        have HS100 := HS99.drop
        have HS101 := HS100.drop
        have HS102 := HS101.drop
        have HS103 := HS102.drop
        injection h with h
        injection h with h0_ h
        subst h0_ h
        exact ⟨f72, rfl, (L24.trans (L35.trans (L49.trans L73))), HS103⟩

set_option maxRecDepth 100000 in
set_option maxHeartbeats 4000000 in
theorem spykeep3_pulls.calls (k : Nat)   {t w : World} {f : FM} {H : List Seg} (HS : St t w f (H)) (r1 : Bool) (h : spykeep3_pulls k = some r1) :
    Calls Try.prog 9 #[] w (fun e w' => ∃ (g : FM), e = .returned (Value.bool r1) ∧ FM.le f g ∧ St t w' g (H)) := by
  unfold spykeep3_pulls at h
  refine enter Try.func9 rfl (tm := #[uV, uV, uV, uV, uV, uV, uV, uV, uV, uV, uV, uV, uV, uV, uV, uV]) (by kernel_rfl) ?_
  intro B hret hnor hnp
  refine wp_seq_k (fun K1 hK2 => ?_)
  refine wp_region_lit ?_
  refine seqS1 (a' := ⟨#[.bool false, uV, uV, uV, uV, uV, uV, uV, uV, uV, uV, uV, uV, uV, uV, uV], []⟩) (by kernel_rfl) ?_
  refine wpList_nil ?_
  refine hK2 _ _ ?_
  refine wp_seq_k (fun K3 hK4 => ?_)
  refine wp_region_lit ?_
  have hq_ := bind_some h; clear h; obtain ⟨⟨vt5, vt6⟩, hc7, h⟩ := hq_
  refine seqL2 (by kernel_rfl) ?_
  refine seqK rfl (does_call (f := 8) (args := #[.agg #[.int .i64 1048576, .int .i64 0, .int .i64 0], .agg #[.int .i64 1048576, .int .i64 0, .int .i64 0]]) (by kernel_rfl) (sky_Step.calls k (⟨1048576, 0, 0⟩ : S_Vec) (⟨1048576, 0, 0⟩ : S_Vec) HS vt5 vt6 hc7) ?_)
  rintro _ W10 ⟨f8, rfl, L9, HS11⟩
  refine ⟨_, rfl, ?_⟩
  refine seqL3 (by kernel_rfl) ?_
  refine seqK rfl (does_alloc (z := Value.agg #[.int .i64 0, .int .i64 0, .int .i64 0]) (cs := #[.int .i64 0, .int .i64 0, .int .i64 0]) rfl (by kernel_rfl) rfl HS11 ?_)
  intro b12 W13 HS14
  refine seqK rfl (does_store (n := 3) (vs := [.int .i64 vt5.X, .int .i64 vt5.Y, .int .i64 vt5.Z]) (cs' := #[.int .i64 vt5.X, .int .i64 vt5.Y, .int .i64 vt5.Z]) rfl (by kernel_rfl) (by kernel_rfl : _ = Value.pointer (some ⟨b12, 0, none⟩)) (by kernel_rfl : _ = Value.agg #[.int .i64 vt5.X, .int .i64 vt5.Y, .int .i64 vt5.Z]) rfl rfl (by intro u_ hu_; simp only [List.mem_cons, List.not_mem_nil, or_false] at hu_; rcases hu_ with rfl | rfl | rfl <;> rfl) HS14 (Nat.le_of_ble_eq_true rfl) (by kernel_rfl) ?_)
  intro W16 HS17
  refine seqS1 (a' := ⟨#[.bool false, .pointer (some ⟨b12, 0, none⟩), iV vt6, .tuple #[.agg #[iV vt5.X, iV vt5.Y, iV vt5.Z], iV vt6], .agg #[iV 1048576, iV 0, iV 0], .agg #[iV 1048576, iV 0, iV 0], .tuple #[.agg #[iV vt5.X, iV vt5.Y, iV vt5.Z], iV vt6], .agg #[iV vt5.X, iV vt5.Y, iV vt5.Z], iV vt6, uV, uV, uV, uV, uV, uV, uV], []⟩) (by kernel_rfl) ?_
  refine wpList_nil ?_
  refine hK4 _ _ ?_
  refine wp_seq_k (fun K18 hK19 => ?_)
  refine wp_region_lit ?_
  refine seqS3 (a' := ⟨#[.bool false, .pointer (some ⟨b12, 0, none⟩), iV vt6, .tuple #[.agg #[iV vt5.X, iV vt5.Y, iV vt5.Z], iV vt6], .agg #[iV 1048576, iV 0, iV 0], .agg #[iV 1048576, iV 0, iV 0], .tuple #[.agg #[iV vt5.X, iV vt5.Y, iV vt5.Z], iV vt6], .agg #[iV vt5.X, iV vt5.Y, iV vt5.Z], iV vt6, iV vt6, .bool (vt6 == 0), .bool (vt6 == 0), uV, uV, uV, uV], []⟩) (by kernel_rfl) ?_
  have hq_ := ite_some h; clear h; rcases hq_ with ⟨c20, h⟩ | ⟨c20, h⟩
  · have c20 : vt6 = 0 := c20
    refine seqRwI 10 (x := (vt6 == 0)) (v := true) (by kernel_rfl) (beq_iff_eq.mpr c20) ?_
    refine seqRwI 11 (x := (vt6 == 0)) (v := true) (by kernel_rfl) (beq_iff_eq.mpr c20) ?_
    refine seqG (by kernel_rfl) (does_run (run_loadN (n := 3) rfl Try.underlying23 rfl (by kernel_rfl) (by kernel_rfl : _ = Value.pointer (some ⟨b12, 0, none⟩)) (cs := [.int .i64 vt5.X, .int .i64 vt5.Y, .int .i64 vt5.Z]) rfl (HS17.cells 0 3 _ rfl)) ?_)
    refine seqL1 (by kernel_rfl) ?_
    refine seqG (by kernel_rfl) (does_run (run_eqS (b := ((vt5.X == 1040384) && ((vt5.Y == 0) && ((vt5.Z == 0) && true)))) rfl (by kernel_rfl : _ = Value.agg #[.int .i64 vt5.X, .int .i64 vt5.Y, .int .i64 vt5.Z]) (by kernel_rfl : _ = Value.agg #[.int .i64 1040384, .int .i64 0, .int .i64 0]) (by kernel_rfl) (by kernel_rfl) W16) ?_)
    refine seqS2 (a' := ⟨#[.bool ((vt5.X == 1040384) && ((vt5.Y == 0) && ((vt5.Z == 0) && true))), .pointer (some ⟨b12, 0, none⟩), iV vt6, .tuple #[.agg #[iV vt5.X, iV vt5.Y, iV vt5.Z], iV vt6], .agg #[iV 1048576, iV 0, iV 0], .agg #[iV 1048576, iV 0, iV 0], .tuple #[.agg #[iV vt5.X, iV vt5.Y, iV vt5.Z], iV vt6], .agg #[iV vt5.X, iV vt5.Y, iV vt5.Z], iV vt6, iV vt6, .bool true, .bool true, .agg #[iV vt5.X, iV vt5.Y, iV vt5.Z], .agg #[iV 1040384, iV 0, iV 0], .bool ((vt5.X == 1040384) && ((vt5.Y == 0) && ((vt5.Z == 0) && true))), .bool ((vt5.X == 1040384) && ((vt5.Y == 0) && ((vt5.Z == 0) && true)))], []⟩) (by kernel_rfl) ?_
    refine wpList_nil ?_
    refine hK19 _ _ ?_
    refine wp_ret ?_
    refine hret _ _ ?_
    refine ends_still (v := Value.bool ((vt5.X == 1040384) && ((vt5.Y == 0) && ((vt5.Z == 0) && true)))) (by kernel_rfl) (by kernel_rfl) ?_
    have HS21 := HS17.drop
    injection h with h
    subst h
    exact ⟨f8, rfl, L9, HS21⟩
  · have c20 : ¬ (vt6 = 0) := c20
    refine seqRwI 10 (x := (vt6 == 0)) (v := false) (by kernel_rfl) (beq_eq_false_iff_ne.mpr c20) ?_
    refine seqRwI 11 (x := (vt6 == 0)) (v := false) (by kernel_rfl) (beq_eq_false_iff_ne.mpr c20) ?_
    refine seqS5 (a' := ⟨#[.bool false, .pointer (some ⟨b12, 0, none⟩), iV vt6, .tuple #[.agg #[iV vt5.X, iV vt5.Y, iV vt5.Z], iV vt6], .agg #[iV 1048576, iV 0, iV 0], .agg #[iV 1048576, iV 0, iV 0], .tuple #[.agg #[iV vt5.X, iV vt5.Y, iV vt5.Z], iV vt6], .agg #[iV vt5.X, iV vt5.Y, iV vt5.Z], iV vt6, iV vt6, .bool false, .bool false, uV, uV, uV, .bool false], []⟩) (by kernel_rfl) ?_
    refine wpList_nil ?_
    refine hK19 _ _ ?_
    refine wp_ret ?_
    refine hret _ _ ?_
    refine ends_still (v := Value.bool false) (by kernel_rfl) (by kernel_rfl) ?_
    have HS22 := HS17.drop
    injection h with h
    subst h
    exact ⟨f8, rfl, L9, HS22⟩

set_option maxRecDepth 100000 in
set_option maxHeartbeats 4000000 in
theorem spykeep3_SkyRatesRepeat.calls (k : Nat) (A2 : Option Addr) (c3 : Nat) (l1 : List Int) (vt5 : Int) (turns6 : Int) {t w : World} {f : FM} {H : List Seg} (HS : St t w f (H)) (HR4 : SlR (tInt .i64) f A2 c3 l1) (r1 : Bool) (h : spykeep3_SkyRatesRepeat k l1 vt5 turns6 = some r1) :
    Calls Try.prog 7 #[.slice A2 l1.length c3, .int .i64 vt5, .int .i64 turns6] w (fun e w' => ∃ (g : FM), e = .returned (Value.bool r1) ∧ FM.le f g ∧ St t w' g (H)) := by
  unfold spykeep3_SkyRatesRepeat at h
  refine enter Try.func7 rfl (tm := #[.slice A2 l1.length c3, iV vt5, iV turns6, uV, uV, uV, uV, uV, uV, uV, uV, uV, uV, uV, uV, uV, uV, uV, uV, uV, uV, uV, uV, uV, uV, uV, uV, uV, uV, uV, uV, uV, uV, uV, uV, uV, uV, uV, uV, uV, uV, uV, uV, uV, uV, uV, uV, uV, uV, uV, uV, uV, uV, uV, uV, uV, uV, uV, uV, uV, uV, uV, uV, uV, uV, uV, uV, uV, uV, uV, uV, uV, uV, uV, uV, uV, uV, uV, uV, uV, uV, uV, uV, uV, uV, uV, uV, uV, uV]) (by kernel_rfl) ?_
  intro B hret hnor hnp
  refine wp_seq_k (fun K7 hK8 => ?_)
  refine wp_region_lit ?_
  refine seqS1 (a' := ⟨#[.slice A2 l1.length c3, iV vt5, iV turns6, uV, uV, uV, .bool false, uV, uV, uV, uV, uV, uV, uV, uV, uV, uV, uV, uV, uV, uV, uV, uV, uV, uV, uV, uV, uV, uV, uV, uV, uV, uV, uV, uV, uV, uV, uV, uV, uV, uV, uV, uV, uV, uV, uV, uV, uV, uV, uV, uV, uV, uV, uV, uV, uV, uV, uV, uV, uV, uV, uV, uV, uV, uV, uV, uV, uV, uV, uV, uV, uV, uV, uV, uV, uV, uV, uV, uV, uV, uV, uV, uV, uV, uV, uV, uV, uV, uV], []⟩) (by kernel_rfl) ?_
  refine wpList_nil ?_
  refine hK8 _ _ ?_
  refine wp_seq_k (fun K9 hK10 => ?_)
  refine wp_region_lit ?_
  refine seqL2 (by kernel_rfl) ?_
  refine seqK rfl (does_box (cs := #[.slice A2 l1.length c3, .int .i64 0]) rfl (by kernel_rfl : _ = Value.agg #[.slice A2 l1.length c3, .int .i64 0]) rfl HS ?_)
  intro b11 W12 HS13
  refine seqS1 (a' := ⟨#[.slice A2 l1.length c3, iV vt5, iV turns6, uV, uV, uV, .bool false, .pointer (some ⟨b11, 0, none⟩), uV, uV, uV, uV, uV, uV, uV, .slice A2 l1.length c3, .agg #[.slice A2 l1.length c3, iV 0], .pointer (some ⟨b11, 0, none⟩), uV, uV, uV, uV, uV, uV, uV, uV, uV, uV, uV, uV, uV, uV, uV, uV, uV, uV, uV, uV, uV, uV, uV, uV, uV, uV, uV, uV, uV, uV, uV, uV, uV, uV, uV, uV, uV, uV, uV, uV, uV, uV, uV, uV, uV, uV, uV, uV, uV, uV, uV, uV, uV, uV, uV, uV, uV, uV, uV, uV, uV, uV, uV, uV, uV, uV, uV, uV, uV, uV, uV], []⟩) (by kernel_rfl) ?_
  refine wpList_nil ?_
  refine hK10 _ _ ?_
  refine wp_seq_k (fun K15 hK16 => ?_)
  refine wp_region_lit ?_
  have hq_ := bind_some h; clear h; obtain ⟨⟨vt17, vt18⟩, hc19, h⟩ := hq_
  refine seqL2 (by kernel_rfl) ?_
  refine seqK rfl (does_call (f := 24) (args := #[.pointer (some ⟨b11, 0, none⟩)]) (by kernel_rfl) (spymake_Stream_Vec.calls k b11 A2 c3 (⟨l1, 0⟩ : S_Stream) HS13 HR4 vt17 vt18 hc19) ?_)
  rintro _ W22 ⟨f20, rfl, L21, HS23⟩
  refine ⟨_, rfl, ?_⟩
  have hq_ := bind_some h; clear h; obtain ⟨⟨vt24, vt25⟩, hc26, h⟩ := hq_
  refine seqK rfl (does_call (f := 23) (args := #[.pointer (some ⟨b11, 0, none⟩), .int .i64 3, .agg #[.int .i64 vt17.X, .int .i64 vt17.Y, .int .i64 vt17.Z]]) (by kernel_rfl) (spymake_Stream_Star.calls k b11 A2 c3 (⟨l1, vt18⟩ : S_Stream) 3 vt17 HS23 (HR4.mono L21) vt24 vt25 hc26) ?_)
  rintro _ W29 ⟨f27, A31, c32, s33, rfl, L28, HS30, HO34⟩
  refine ⟨_, rfl, ?_⟩
  refine seqK rfl (does_alloc (z := Value.agg #[.int .i64 0, .int .i64 0, .int .i64 0, .int .i64 0, .int .i64 0, .slice none 0 0, .int .i64 0, .int .i64 0, .int .i64 0]) (cs := #[.int .i64 0, .int .i64 0, .int .i64 0, .int .i64 0, .int .i64 0, .slice none 0 0, .int .i64 0, .int .i64 0, .int .i64 0]) rfl (by kernel_rfl) rfl HS30 ?_)
  intro b36 W37 HS38
  refine seqK rfl (does_store (n := 9) (vs := [.int .i64 vt24.ID, .int .i64 vt24.At.X, .int .i64 vt24.At.Y, .int .i64 vt24.At.Z, .int .i64 vt24.Rate, .slice A31 vt24.Wave.length c32, .int .i64 vt24.Period, .int .i64 vt24.From, .int .i64 vt24.To]) (cs' := #[.int .i64 vt24.ID, .int .i64 vt24.At.X, .int .i64 vt24.At.Y, .int .i64 vt24.At.Z, .int .i64 vt24.Rate, .slice A31 vt24.Wave.length c32, .int .i64 vt24.Period, .int .i64 vt24.From, .int .i64 vt24.To]) rfl (by kernel_rfl) (by kernel_rfl : _ = Value.pointer (some ⟨b36, 0, none⟩)) (by kernel_rfl : _ = Value.agg #[.int .i64 vt24.ID, .int .i64 vt24.At.X, .int .i64 vt24.At.Y, .int .i64 vt24.At.Z, .int .i64 vt24.Rate, .slice A31 vt24.Wave.length c32, .int .i64 vt24.Period, .int .i64 vt24.From, .int .i64 vt24.To]) rfl rfl (by intro u_ hu_; simp only [List.mem_cons, List.not_mem_nil, or_false] at hu_; rcases hu_ with rfl | rfl | rfl | rfl | rfl | rfl | rfl | rfl | rfl <;> rfl) HS38 (Nat.le_of_ble_eq_true rfl) (by kernel_rfl) ?_)
  intro W40 HS41
  refine wpList_nil ?_
  refine hK16 _ _ ?_
  refine wp_seq_k (fun K42 hK43 => ?_)
  refine wp_region_lit ?_
  refine seqK rfl (does_run (run_loadN (n := 9) rfl Try.underlying62 rfl (by kernel_rfl) (by kernel_rfl : _ = Value.pointer (some ⟨b36, 0, none⟩)) (cs := [.int .i64 vt24.ID, .int .i64 vt24.At.X, .int .i64 vt24.At.Y, .int .i64 vt24.At.Z, .int .i64 vt24.Rate, .slice A31 vt24.Wave.length c32, .int .i64 vt24.Period, .int .i64 vt24.From, .int .i64 vt24.To]) rfl (HS41.cells 0 9 _ rfl)) ?_)
  have HS44 := HS41.u1
  obtain ⟨f45, L46, HS47, HR48⟩ := HO34.freeze HS44
  refine seqK rfl (does_lit (e := ty_Star) (E := 62) (vs := #[(0, Value.agg #[.int .i64 vt24.ID, .int .i64 vt24.At.X, .int .i64 vt24.At.Y, .int .i64 vt24.At.Z, .int .i64 vt24.Rate, .slice A31 vt24.Wave.length c32, .int .i64 vt24.Period, .int .i64 vt24.From, .int .i64 vt24.To])]) (cs := #[.int .i64 vt24.ID, .int .i64 vt24.At.X, .int .i64 vt24.At.Y, .int .i64 vt24.At.Z, .int .i64 vt24.Rate, .slice A31 vt24.Wave.length c32, .int .i64 vt24.Period, .int .i64 vt24.From, .int .i64 vt24.To]) (xs := ([vt24] : List S_Star)) rfl Try.underlying65 (by kernel_rfl) (by kernel_rfl) ⟨[.int .i64 vt24.ID, .int .i64 vt24.At.X, .int .i64 vt24.At.Y, .int .i64 vt24.At.Z, .int .i64 vt24.Rate, .slice A31 vt24.Wave.length c32, .int .i64 vt24.Period, .int .i64 vt24.From, .int .i64 vt24.To], _, rfl, ⟨A31, c32, rfl, HR48⟩, rfl⟩ rfl HS47 ?_ (by decide))
  intro b49 W50 s51 HS52 _ HO53
  refine seqL1 (by kernel_rfl) ?_
  refine seqK rfl (does_alloc (z := Value.agg #[.int .i64 0, .slice none 0 0, .slice none 0 0, .slice none 0 0, .int .i64 0, .int .i64 0, .int .i64 0, .int .i64 0, .int .i64 0, .int .i64 0, .int .i64 0, .int .i64 0]) (cs := #[.int .i64 0, .slice none 0 0, .slice none 0 0, .slice none 0 0, .int .i64 0, .int .i64 0, .int .i64 0, .int .i64 0, .int .i64 0, .int .i64 0, .int .i64 0, .int .i64 0]) rfl (by kernel_rfl) rfl HS52 ?_)
  intro b55 W56 HS57
  refine seqK rfl (does_store (n := 12) (vs := [.int .i64 0, .slice (some ⟨b49, 0, none⟩) ([vt24] : List S_Star).length 1, .slice none 0 0, .slice none 0 0, .int .i64 0, .int .i64 0, .int .i64 0, .int .i64 0, .int .i64 0, .int .i64 0, .int .i64 0, .int .i64 0]) (cs' := #[.int .i64 0, .slice (some ⟨b49, 0, none⟩) ([vt24] : List S_Star).length 1, .slice none 0 0, .slice none 0 0, .int .i64 0, .int .i64 0, .int .i64 0, .int .i64 0, .int .i64 0, .int .i64 0, .int .i64 0, .int .i64 0]) rfl (by kernel_rfl) (by kernel_rfl : _ = Value.pointer (some ⟨b55, 0, none⟩)) (by kernel_rfl : _ = Value.agg #[.int .i64 0, .slice (some ⟨b49, 0, none⟩) ([vt24] : List S_Star).length 1, .slice none 0 0, .slice none 0 0, .int .i64 0, .int .i64 0, .int .i64 0, .int .i64 0, .int .i64 0, .int .i64 0, .int .i64 0, .int .i64 0]) rfl rfl (by intro u_ hu_; simp only [List.mem_cons, List.not_mem_nil, or_false] at hu_; rcases hu_ with rfl | rfl | rfl | rfl | rfl | rfl | rfl | rfl | rfl | rfl | rfl | rfl <;> rfl) HS57 (Nat.le_of_ble_eq_true rfl) (by kernel_rfl) ?_)
  intro W59 HS60
  refine wpList_nil ?_
  refine hK43 _ _ ?_
  refine wp_seq_k (fun K61 hK62 => ?_)
  refine wp_region_lit ?_
  refine seqS3 (a' := ⟨#[.slice A2 l1.length c3, iV (Int.tmod vt5 1099511627776), iV turns6, uV, uV, uV, .bool false, .pointer (some ⟨b11, 0, none⟩), .pointer (some ⟨b36, 0, none⟩), .pointer (some ⟨b55, 0, none⟩), uV, uV, uV, uV, uV, .slice A2 l1.length c3, .agg #[.slice A2 l1.length c3, iV 0], .pointer (some ⟨b11, 0, none⟩), .pointer (some ⟨b11, 0, none⟩), .pointer (some ⟨b11, 0, none⟩), .agg #[iV vt17.X, iV vt17.Y, iV vt17.Z], .agg #[iV vt24.ID, iV vt24.At.X, iV vt24.At.Y, iV vt24.At.Z, iV vt24.Rate, .slice A31 vt24.Wave.length c32, iV vt24.Period, iV vt24.From, iV vt24.To], .agg #[iV vt24.ID, iV vt24.At.X, iV vt24.At.Y, iV vt24.At.Z, iV vt24.Rate, .slice A31 vt24.Wave.length c32, iV vt24.Period, iV vt24.From, iV vt24.To], .slice (some ⟨b49, 0, none⟩) ([vt24] : List S_Star).length 1, .agg #[iV 0, .slice (some ⟨b49, 0, none⟩) ([vt24] : List S_Star).length 1, .slice none 0 0, .slice none 0 0, iV 0, iV 0, iV 0, iV 0, iV 0, iV 0, iV 0, iV 0], iV vt5, iV (Int.tmod vt5 1099511627776), uV, uV, uV, uV, uV, uV, uV, uV, uV, uV, uV, uV, uV, uV, uV, uV, uV, uV, uV, uV, uV, uV, uV, uV, uV, uV, uV, uV, uV, uV, uV, uV, uV, uV, uV, uV, uV, uV, uV, uV, uV, uV, uV, uV, uV, uV, uV, uV, uV, uV, uV, uV, uV, uV, uV, uV, uV, uV, uV, uV, uV, uV], []⟩) (by kernel_rfl) ?_
  refine wpList_nil ?_
  refine hK62 _ _ ?_
  refine wp_seq_k (fun K63 hK64 => ?_)
  refine wp_region_lit ?_
  refine seqK rfl (does_run (run_loadN (n := 12) rfl Try.underlying69 rfl (by kernel_rfl) (by kernel_rfl : _ = Value.pointer (some ⟨b55, 0, none⟩)) (cs := [.int .i64 0, .slice (some ⟨b49, 0, none⟩) ([vt24] : List S_Star).length 1, .slice none 0 0, .slice none 0 0, .int .i64 0, .int .i64 0, .int .i64 0, .int .i64 0, .int .i64 0, .int .i64 0, .int .i64 0, .int .i64 0]) rfl (HS60.cells 0 12 _ rfl)) ?_)
  have HS65 := HS60.u1
  obtain ⟨f66, L67, HS68, HR69, th70⟩ := HO53.lend HS65
  have hq_ := bind_some h; clear h; obtain ⟨⟨vt71, vt72⟩, hc73, h⟩ := hq_
  refine seqL1 (by kernel_rfl) ?_
  refine seqK rfl (does_call (f := 25) (args := #[.agg #[.int .i64 0, .slice (some ⟨b49, 0, none⟩) ([vt24] : List S_Star).length 1, .slice none 0 0, .slice none 0 0, .int .i64 0, .int .i64 0, .int .i64 0, .int .i64 0, .int .i64 0, .int .i64 0, .int .i64 0, .int .i64 0], .int .i64 3, .int .i64 (Int.tmod vt5 1099511627776)]) (by kernel_rfl) (sky_Rate.calls k (some ⟨b49, 0, none⟩) 1 none 0 none 0 (⟨0, ([vt24] : List S_Star), ([] : List S_Galaxy), ([] : List S_Body), (⟨0, (⟨0, 0, 0⟩ : S_Vec), (⟨0, 0, 0⟩ : S_Vec), 0⟩ : S_Body)⟩ : S_Sky) 3 (Int.tmod vt5 1099511627776) HS68 HR69 (SlR.nil _ _) (SlR.nil _ _) vt71 vt72 hc73) ?_)
  rintro _ W76 ⟨f74, rfl, L75, HS77⟩
  refine ⟨_, rfl, ?_⟩
  obtain ⟨f78, L79, HS80⟩ := th70 L75 HS77
  refine seqS5 (a' := ⟨#[.slice A2 l1.length c3, iV (Int.tmod vt5 1099511627776), iV turns6, uV, uV, uV, .bool false, .pointer (some ⟨b11, 0, none⟩), .pointer (some ⟨b36, 0, none⟩), .pointer (some ⟨b55, 0, none⟩), iV vt71, iV vt72, uV, uV, uV, .slice A2 l1.length c3, .agg #[.slice A2 l1.length c3, iV 0], .pointer (some ⟨b11, 0, none⟩), .pointer (some ⟨b11, 0, none⟩), .pointer (some ⟨b11, 0, none⟩), .agg #[iV vt17.X, iV vt17.Y, iV vt17.Z], .agg #[iV vt24.ID, iV vt24.At.X, iV vt24.At.Y, iV vt24.At.Z, iV vt24.Rate, .slice A31 vt24.Wave.length c32, iV vt24.Period, iV vt24.From, iV vt24.To], .agg #[iV vt24.ID, iV vt24.At.X, iV vt24.At.Y, iV vt24.At.Z, iV vt24.Rate, .slice A31 vt24.Wave.length c32, iV vt24.Period, iV vt24.From, iV vt24.To], .slice (some ⟨b49, 0, none⟩) ([vt24] : List S_Star).length 1, .agg #[iV 0, .slice (some ⟨b49, 0, none⟩) ([vt24] : List S_Star).length 1, .slice none 0 0, .slice none 0 0, iV 0, iV 0, iV 0, iV 0, iV 0, iV 0, iV 0, iV 0], iV vt5, iV (Int.tmod vt5 1099511627776), .tuple #[iV vt71, iV vt72], .agg #[iV 0, .slice (some ⟨b49, 0, none⟩) ([vt24] : List S_Star).length 1, .slice none 0 0, .slice none 0 0, iV 0, iV 0, iV 0, iV 0, iV 0, iV 0, iV 0, iV 0], iV (Int.tmod vt5 1099511627776), .tuple #[iV vt71, iV vt72], iV vt71, iV vt72, uV, uV, uV, uV, uV, uV, uV, uV, uV, uV, uV, uV, uV, uV, uV, uV, uV, uV, uV, uV, uV, uV, uV, uV, uV, uV, uV, uV, uV, uV, uV, uV, uV, uV, uV, uV, uV, uV, uV, uV, uV, uV, uV, uV, uV, uV, uV, uV, uV, uV, uV, uV, uV, uV, uV, uV], []⟩) (by kernel_rfl) ?_
  refine wpList_nil ?_
  refine hK64 _ _ ?_
  refine wp_seq_k (fun K81 hK82 => ?_)
  refine wp_seq_k (fun K83 hK84 => ?_)
  refine wp_region_lit ?_
  have hq_ := bind_some h; clear h; obtain ⟨vt85, hc86, h⟩ := hq_
  refine seqK rfl (does_call (f := 9) (args := #[]) (by kernel_rfl) (spykeep3_pulls.calls k  HS80 vt85 hc86) ?_)
  rintro _ W89 ⟨f87, rfl, L88, HS90⟩
  refine ⟨_, rfl, ?_⟩
  refine seqS2 (a' := ⟨#[.slice A2 l1.length c3, iV (Int.tmod vt5 1099511627776), iV turns6, uV, uV, uV, .bool false, .pointer (some ⟨b11, 0, none⟩), .pointer (some ⟨b36, 0, none⟩), .pointer (some ⟨b55, 0, none⟩), iV vt71, iV vt72, uV, uV, uV, .slice A2 l1.length c3, .agg #[.slice A2 l1.length c3, iV 0], .pointer (some ⟨b11, 0, none⟩), .pointer (some ⟨b11, 0, none⟩), .pointer (some ⟨b11, 0, none⟩), .agg #[iV vt17.X, iV vt17.Y, iV vt17.Z], .agg #[iV vt24.ID, iV vt24.At.X, iV vt24.At.Y, iV vt24.At.Z, iV vt24.Rate, .slice A31 vt24.Wave.length c32, iV vt24.Period, iV vt24.From, iV vt24.To], .agg #[iV vt24.ID, iV vt24.At.X, iV vt24.At.Y, iV vt24.At.Z, iV vt24.Rate, .slice A31 vt24.Wave.length c32, iV vt24.Period, iV vt24.From, iV vt24.To], .slice (some ⟨b49, 0, none⟩) ([vt24] : List S_Star).length 1, .agg #[iV 0, .slice (some ⟨b49, 0, none⟩) ([vt24] : List S_Star).length 1, .slice none 0 0, .slice none 0 0, iV 0, iV 0, iV 0, iV 0, iV 0, iV 0, iV 0, iV 0], iV vt5, iV (Int.tmod vt5 1099511627776), .tuple #[iV vt71, iV vt72], .agg #[iV 0, .slice (some ⟨b49, 0, none⟩) ([vt24] : List S_Star).length 1, .slice none 0 0, .slice none 0 0, iV 0, iV 0, iV 0, iV 0, iV 0, iV 0, iV 0, iV 0], iV (Int.tmod vt5 1099511627776), .tuple #[iV vt71, iV vt72], iV vt71, iV vt72, .bool vt85, .bool (!vt85), .bool (!vt85), uV, uV, uV, uV, uV, uV, uV, uV, uV, uV, uV, uV, uV, uV, uV, uV, uV, uV, uV, uV, uV, uV, uV, uV, uV, uV, uV, uV, uV, uV, uV, uV, uV, uV, uV, uV, uV, uV, uV, uV, uV, uV, uV, uV, uV, uV, uV, uV, uV, uV, uV, uV, uV], []⟩) (by kernel_rfl) ?_
  have hq_ := ite_some h; clear h; rcases hq_ with ⟨c91, h⟩ | ⟨c91, h⟩
  · have c91 : ¬ (vt85 = true) := c91
    refine seqRwI 34 (x := (!vt85)) (v := true) (by kernel_rfl) (congrArg (fun b_ => !b_) (show vt85 = false from (Bool.eq_false_iff.mpr c91)) : (!vt85) = true) ?_
    refine seqRwI 35 (x := (!vt85)) (v := true) (by kernel_rfl) (congrArg (fun b_ => !b_) (show vt85 = false from (Bool.eq_false_iff.mpr c91)) : (!vt85) = true) ?_
    refine seqS11 (a' := ⟨#[.slice A2 l1.length c3, iV (Int.tmod vt5 1099511627776), iV turns6, uV, uV, uV, .bool false, .pointer (some ⟨b11, 0, none⟩), .pointer (some ⟨b36, 0, none⟩), .pointer (some ⟨b55, 0, none⟩), iV vt71, iV vt72, uV, uV, uV, .slice A2 l1.length c3, .agg #[.slice A2 l1.length c3, iV 0], .pointer (some ⟨b11, 0, none⟩), .pointer (some ⟨b11, 0, none⟩), .pointer (some ⟨b11, 0, none⟩), .agg #[iV vt17.X, iV vt17.Y, iV vt17.Z], .agg #[iV vt24.ID, iV vt24.At.X, iV vt24.At.Y, iV vt24.At.Z, iV vt24.Rate, .slice A31 vt24.Wave.length c32, iV vt24.Period, iV vt24.From, iV vt24.To], .agg #[iV vt24.ID, iV vt24.At.X, iV vt24.At.Y, iV vt24.At.Z, iV vt24.Rate, .slice A31 vt24.Wave.length c32, iV vt24.Period, iV vt24.From, iV vt24.To], .slice (some ⟨b49, 0, none⟩) ([vt24] : List S_Star).length 1, .agg #[iV 0, .slice (some ⟨b49, 0, none⟩) ([vt24] : List S_Star).length 1, .slice none 0 0, .slice none 0 0, iV 0, iV 0, iV 0, iV 0, iV 0, iV 0, iV 0, iV 0], iV vt5, iV (Int.tmod vt5 1099511627776), .tuple #[iV vt71, iV vt72], .agg #[iV 0, .slice (some ⟨b49, 0, none⟩) ([vt24] : List S_Star).length 1, .slice none 0 0, .slice none 0 0, iV 0, iV 0, iV 0, iV 0, iV 0, iV 0, iV 0, iV 0], iV (Int.tmod vt5 1099511627776), .tuple #[iV vt71, iV vt72], iV vt71, iV vt72, .bool vt85, .bool true, .bool true, uV, uV, .bool true, .bool true, uV, uV, .bool true, .bool true, uV, uV, .bool true, uV, uV, uV, uV, uV, uV, uV, uV, uV, uV, uV, uV, uV, uV, uV, uV, uV, uV, uV, uV, uV, uV, uV, uV, uV, uV, uV, uV, uV, uV, uV, uV, uV, uV, uV, uV, uV, uV, uV, uV, uV, uV], []⟩) (by kernel_rfl) ?_
    refine wpList_nil ?_
    refine hK84 _ _ ?_
    refine condT (by kernel_rfl) ?_
    refine wp_seq_k (fun K92 hK93 => ?_)
    refine wp_region_lit ?_
    refine seqS1 (a' := ⟨#[.slice A2 l1.length c3, iV (Int.tmod vt5 1099511627776), iV turns6, uV, uV, uV, .bool false, .pointer (some ⟨b11, 0, none⟩), .pointer (some ⟨b36, 0, none⟩), .pointer (some ⟨b55, 0, none⟩), iV vt71, iV vt72, uV, uV, uV, .slice A2 l1.length c3, .agg #[.slice A2 l1.length c3, iV 0], .pointer (some ⟨b11, 0, none⟩), .pointer (some ⟨b11, 0, none⟩), .pointer (some ⟨b11, 0, none⟩), .agg #[iV vt17.X, iV vt17.Y, iV vt17.Z], .agg #[iV vt24.ID, iV vt24.At.X, iV vt24.At.Y, iV vt24.At.Z, iV vt24.Rate, .slice A31 vt24.Wave.length c32, iV vt24.Period, iV vt24.From, iV vt24.To], .agg #[iV vt24.ID, iV vt24.At.X, iV vt24.At.Y, iV vt24.At.Z, iV vt24.Rate, .slice A31 vt24.Wave.length c32, iV vt24.Period, iV vt24.From, iV vt24.To], .slice (some ⟨b49, 0, none⟩) ([vt24] : List S_Star).length 1, .agg #[iV 0, .slice (some ⟨b49, 0, none⟩) ([vt24] : List S_Star).length 1, .slice none 0 0, .slice none 0 0, iV 0, iV 0, iV 0, iV 0, iV 0, iV 0, iV 0, iV 0], iV vt5, iV (Int.tmod vt5 1099511627776), .tuple #[iV vt71, iV vt72], .agg #[iV 0, .slice (some ⟨b49, 0, none⟩) ([vt24] : List S_Star).length 1, .slice none 0 0, .slice none 0 0, iV 0, iV 0, iV 0, iV 0, iV 0, iV 0, iV 0, iV 0], iV (Int.tmod vt5 1099511627776), .tuple #[iV vt71, iV vt72], iV vt71, iV vt72, .bool vt85, .bool true, .bool true, uV, uV, .bool true, .bool true, uV, uV, .bool true, .bool true, uV, uV, .bool true, uV, uV, uV, uV, uV, uV, uV, uV, uV, uV, uV, uV, uV, uV, uV, uV, uV, uV, uV, uV, uV, uV, uV, uV, uV, uV, uV, uV, uV, uV, uV, uV, uV, uV, uV, uV, uV, uV, uV, uV, uV, uV], []⟩) (by kernel_rfl) ?_
    refine wpList_nil ?_
    refine hK93 _ _ ?_
    refine wp_ret ?_
    refine hret _ _ ?_
    refine ends_still (v := Value.bool false) (by kernel_rfl) (by kernel_rfl) ?_
    have HS147 := HS90.drop
    have HS148 := HS147.drop
    have HS149 := HS148.drop
    have HS150 := HS149.drop
    injection h with h
    subst h
    exact ⟨f87, rfl, (L21.trans (L28.trans (L46.trans (L79.trans L88)))), HS150⟩
  · have c91 : ¬ (¬ (vt85 = true)) := c91
    refine seqRwI 34 (x := (!vt85)) (v := false) (by kernel_rfl) (congrArg (fun b_ => !b_) (show vt85 = true from (Decidable.of_not_not c91)) : (!vt85) = false) ?_
    refine seqRwI 35 (x := (!vt85)) (v := false) (by kernel_rfl) (congrArg (fun b_ => !b_) (show vt85 = true from (Decidable.of_not_not c91)) : (!vt85) = false) ?_
    refine seqS4 (a' := ⟨#[.slice A2 l1.length c3, iV (Int.tmod vt5 1099511627776), iV turns6, uV, uV, uV, .bool false, .pointer (some ⟨b11, 0, none⟩), .pointer (some ⟨b36, 0, none⟩), .pointer (some ⟨b55, 0, none⟩), iV vt71, iV vt72, uV, uV, uV, .slice A2 l1.length c3, .agg #[.slice A2 l1.length c3, iV 0], .pointer (some ⟨b11, 0, none⟩), .pointer (some ⟨b11, 0, none⟩), .pointer (some ⟨b11, 0, none⟩), .agg #[iV vt17.X, iV vt17.Y, iV vt17.Z], .agg #[iV vt24.ID, iV vt24.At.X, iV vt24.At.Y, iV vt24.At.Z, iV vt24.Rate, .slice A31 vt24.Wave.length c32, iV vt24.Period, iV vt24.From, iV vt24.To], .agg #[iV vt24.ID, iV vt24.At.X, iV vt24.At.Y, iV vt24.At.Z, iV vt24.Rate, .slice A31 vt24.Wave.length c32, iV vt24.Period, iV vt24.From, iV vt24.To], .slice (some ⟨b49, 0, none⟩) ([vt24] : List S_Star).length 1, .agg #[iV 0, .slice (some ⟨b49, 0, none⟩) ([vt24] : List S_Star).length 1, .slice none 0 0, .slice none 0 0, iV 0, iV 0, iV 0, iV 0, iV 0, iV 0, iV 0, iV 0], iV vt5, iV (Int.tmod vt5 1099511627776), .tuple #[iV vt71, iV vt72], .agg #[iV 0, .slice (some ⟨b49, 0, none⟩) ([vt24] : List S_Star).length 1, .slice none 0 0, .slice none 0 0, iV 0, iV 0, iV 0, iV 0, iV 0, iV 0, iV 0, iV 0], iV (Int.tmod vt5 1099511627776), .tuple #[iV vt71, iV vt72], iV vt71, iV vt72, .bool vt85, .bool false, .bool false, iV vt72, .bool (vt72 != 0), .bool (vt72 != 0), .bool (vt72 != 0), uV, uV, uV, uV, uV, uV, uV, uV, uV, uV, uV, uV, uV, uV, uV, uV, uV, uV, uV, uV, uV, uV, uV, uV, uV, uV, uV, uV, uV, uV, uV, uV, uV, uV, uV, uV, uV, uV, uV, uV, uV, uV, uV, uV, uV, uV, uV, uV, uV], []⟩) (by kernel_rfl) ?_
    have hq_ := ite_some h; clear h; rcases hq_ with ⟨c94, h⟩ | ⟨c94, h⟩
    · have c94 : vt72 ≠ 0 := c94
      refine seqRwI 37 (x := (vt72 != 0)) (v := true) (by kernel_rfl) (bne_iff_ne.mpr c94) ?_
      refine seqRwI 38 (x := (vt72 != 0)) (v := true) (by kernel_rfl) (bne_iff_ne.mpr c94) ?_
      refine seqRwI 39 (x := (vt72 != 0)) (v := true) (by kernel_rfl) (bne_iff_ne.mpr c94) ?_
      refine seqS7 (a' := ⟨#[.slice A2 l1.length c3, iV (Int.tmod vt5 1099511627776), iV turns6, uV, uV, uV, .bool false, .pointer (some ⟨b11, 0, none⟩), .pointer (some ⟨b36, 0, none⟩), .pointer (some ⟨b55, 0, none⟩), iV vt71, iV vt72, uV, uV, uV, .slice A2 l1.length c3, .agg #[.slice A2 l1.length c3, iV 0], .pointer (some ⟨b11, 0, none⟩), .pointer (some ⟨b11, 0, none⟩), .pointer (some ⟨b11, 0, none⟩), .agg #[iV vt17.X, iV vt17.Y, iV vt17.Z], .agg #[iV vt24.ID, iV vt24.At.X, iV vt24.At.Y, iV vt24.At.Z, iV vt24.Rate, .slice A31 vt24.Wave.length c32, iV vt24.Period, iV vt24.From, iV vt24.To], .agg #[iV vt24.ID, iV vt24.At.X, iV vt24.At.Y, iV vt24.At.Z, iV vt24.Rate, .slice A31 vt24.Wave.length c32, iV vt24.Period, iV vt24.From, iV vt24.To], .slice (some ⟨b49, 0, none⟩) ([vt24] : List S_Star).length 1, .agg #[iV 0, .slice (some ⟨b49, 0, none⟩) ([vt24] : List S_Star).length 1, .slice none 0 0, .slice none 0 0, iV 0, iV 0, iV 0, iV 0, iV 0, iV 0, iV 0, iV 0], iV vt5, iV (Int.tmod vt5 1099511627776), .tuple #[iV vt71, iV vt72], .agg #[iV 0, .slice (some ⟨b49, 0, none⟩) ([vt24] : List S_Star).length 1, .slice none 0 0, .slice none 0 0, iV 0, iV 0, iV 0, iV 0, iV 0, iV 0, iV 0, iV 0], iV (Int.tmod vt5 1099511627776), .tuple #[iV vt71, iV vt72], iV vt71, iV vt72, .bool vt85, .bool false, .bool false, iV vt72, .bool true, .bool true, .bool true, uV, uV, .bool true, .bool true, uV, uV, .bool true, uV, uV, uV, uV, uV, uV, uV, uV, uV, uV, uV, uV, uV, uV, uV, uV, uV, uV, uV, uV, uV, uV, uV, uV, uV, uV, uV, uV, uV, uV, uV, uV, uV, uV, uV, uV, uV, uV, uV, uV, uV, uV], []⟩) (by kernel_rfl) ?_
      refine wpList_nil ?_
      refine hK84 _ _ ?_
      refine condT (by kernel_rfl) ?_
      refine wp_seq_k (fun K95 hK96 => ?_)
      refine wp_region_lit ?_
      refine seqS1 (a' := ⟨#[.slice A2 l1.length c3, iV (Int.tmod vt5 1099511627776), iV turns6, uV, uV, uV, .bool false, .pointer (some ⟨b11, 0, none⟩), .pointer (some ⟨b36, 0, none⟩), .pointer (some ⟨b55, 0, none⟩), iV vt71, iV vt72, uV, uV, uV, .slice A2 l1.length c3, .agg #[.slice A2 l1.length c3, iV 0], .pointer (some ⟨b11, 0, none⟩), .pointer (some ⟨b11, 0, none⟩), .pointer (some ⟨b11, 0, none⟩), .agg #[iV vt17.X, iV vt17.Y, iV vt17.Z], .agg #[iV vt24.ID, iV vt24.At.X, iV vt24.At.Y, iV vt24.At.Z, iV vt24.Rate, .slice A31 vt24.Wave.length c32, iV vt24.Period, iV vt24.From, iV vt24.To], .agg #[iV vt24.ID, iV vt24.At.X, iV vt24.At.Y, iV vt24.At.Z, iV vt24.Rate, .slice A31 vt24.Wave.length c32, iV vt24.Period, iV vt24.From, iV vt24.To], .slice (some ⟨b49, 0, none⟩) ([vt24] : List S_Star).length 1, .agg #[iV 0, .slice (some ⟨b49, 0, none⟩) ([vt24] : List S_Star).length 1, .slice none 0 0, .slice none 0 0, iV 0, iV 0, iV 0, iV 0, iV 0, iV 0, iV 0, iV 0], iV vt5, iV (Int.tmod vt5 1099511627776), .tuple #[iV vt71, iV vt72], .agg #[iV 0, .slice (some ⟨b49, 0, none⟩) ([vt24] : List S_Star).length 1, .slice none 0 0, .slice none 0 0, iV 0, iV 0, iV 0, iV 0, iV 0, iV 0, iV 0, iV 0], iV (Int.tmod vt5 1099511627776), .tuple #[iV vt71, iV vt72], iV vt71, iV vt72, .bool vt85, .bool false, .bool false, iV vt72, .bool true, .bool true, .bool true, uV, uV, .bool true, .bool true, uV, uV, .bool true, uV, uV, uV, uV, uV, uV, uV, uV, uV, uV, uV, uV, uV, uV, uV, uV, uV, uV, uV, uV, uV, uV, uV, uV, uV, uV, uV, uV, uV, uV, uV, uV, uV, uV, uV, uV, uV, uV, uV, uV, uV, uV], []⟩) (by kernel_rfl) ?_
      refine wpList_nil ?_
      refine hK96 _ _ ?_
      refine wp_ret ?_
      refine hret _ _ ?_
      refine ends_still (v := Value.bool false) (by kernel_rfl) (by kernel_rfl) ?_
      have HS151 := HS90.drop
      have HS152 := HS151.drop
      have HS153 := HS152.drop
      have HS154 := HS153.drop
      injection h with h
      subst h
      exact ⟨f87, rfl, (L21.trans (L28.trans (L46.trans (L79.trans L88)))), HS154⟩
    · have c94 : ¬ (vt72 ≠ 0) := c94
      refine seqRwI 37 (x := (vt72 != 0)) (v := false) (by kernel_rfl) (bne_eq_false_iff_eq.mpr (Decidable.of_not_not c94)) ?_
      refine seqRwI 38 (x := (vt72 != 0)) (v := false) (by kernel_rfl) (bne_eq_false_iff_eq.mpr (Decidable.of_not_not c94)) ?_
      refine seqRwI 39 (x := (vt72 != 0)) (v := false) (by kernel_rfl) (bne_eq_false_iff_eq.mpr (Decidable.of_not_not c94)) ?_
      refine seqS4 (a' := ⟨#[.slice A2 l1.length c3, iV (Int.tmod vt5 1099511627776), iV turns6, uV, uV, uV, .bool false, .pointer (some ⟨b11, 0, none⟩), .pointer (some ⟨b36, 0, none⟩), .pointer (some ⟨b55, 0, none⟩), iV vt71, iV vt72, uV, uV, uV, .slice A2 l1.length c3, .agg #[.slice A2 l1.length c3, iV 0], .pointer (some ⟨b11, 0, none⟩), .pointer (some ⟨b11, 0, none⟩), .pointer (some ⟨b11, 0, none⟩), .agg #[iV vt17.X, iV vt17.Y, iV vt17.Z], .agg #[iV vt24.ID, iV vt24.At.X, iV vt24.At.Y, iV vt24.At.Z, iV vt24.Rate, .slice A31 vt24.Wave.length c32, iV vt24.Period, iV vt24.From, iV vt24.To], .agg #[iV vt24.ID, iV vt24.At.X, iV vt24.At.Y, iV vt24.At.Z, iV vt24.Rate, .slice A31 vt24.Wave.length c32, iV vt24.Period, iV vt24.From, iV vt24.To], .slice (some ⟨b49, 0, none⟩) ([vt24] : List S_Star).length 1, .agg #[iV 0, .slice (some ⟨b49, 0, none⟩) ([vt24] : List S_Star).length 1, .slice none 0 0, .slice none 0 0, iV 0, iV 0, iV 0, iV 0, iV 0, iV 0, iV 0, iV 0], iV vt5, iV (Int.tmod vt5 1099511627776), .tuple #[iV vt71, iV vt72], .agg #[iV 0, .slice (some ⟨b49, 0, none⟩) ([vt24] : List S_Star).length 1, .slice none 0 0, .slice none 0 0, iV 0, iV 0, iV 0, iV 0, iV 0, iV 0, iV 0, iV 0], iV (Int.tmod vt5 1099511627776), .tuple #[iV vt71, iV vt72], iV vt71, iV vt72, .bool vt85, .bool false, .bool false, iV vt72, .bool false, .bool false, .bool false, iV vt71, .bool (decide (vt71 < 0)), .bool (decide (vt71 < 0)), .bool (decide (vt71 < 0)), uV, uV, uV, uV, uV, uV, uV, uV, uV, uV, uV, uV, uV, uV, uV, uV, uV, uV, uV, uV, uV, uV, uV, uV, uV, uV, uV, uV, uV, uV, uV, uV, uV, uV, uV, uV, uV, uV, uV, uV, uV, uV, uV, uV, uV], []⟩) (by kernel_rfl) ?_
      have hq_ := ite_some h; clear h; rcases hq_ with ⟨c97, h⟩ | ⟨c97, h⟩
      · have c97 : vt71 < 0 := c97
        refine seqRwI 41 (x := (decide (vt71 < 0))) (v := true) (by kernel_rfl) (decide_eq_true c97) ?_
        refine seqRwI 42 (x := (decide (vt71 < 0))) (v := true) (by kernel_rfl) (decide_eq_true c97) ?_
        refine seqRwI 43 (x := (decide (vt71 < 0))) (v := true) (by kernel_rfl) (decide_eq_true c97) ?_
        refine seqS3 (a' := ⟨#[.slice A2 l1.length c3, iV (Int.tmod vt5 1099511627776), iV turns6, uV, uV, uV, .bool false, .pointer (some ⟨b11, 0, none⟩), .pointer (some ⟨b36, 0, none⟩), .pointer (some ⟨b55, 0, none⟩), iV vt71, iV vt72, uV, uV, uV, .slice A2 l1.length c3, .agg #[.slice A2 l1.length c3, iV 0], .pointer (some ⟨b11, 0, none⟩), .pointer (some ⟨b11, 0, none⟩), .pointer (some ⟨b11, 0, none⟩), .agg #[iV vt17.X, iV vt17.Y, iV vt17.Z], .agg #[iV vt24.ID, iV vt24.At.X, iV vt24.At.Y, iV vt24.At.Z, iV vt24.Rate, .slice A31 vt24.Wave.length c32, iV vt24.Period, iV vt24.From, iV vt24.To], .agg #[iV vt24.ID, iV vt24.At.X, iV vt24.At.Y, iV vt24.At.Z, iV vt24.Rate, .slice A31 vt24.Wave.length c32, iV vt24.Period, iV vt24.From, iV vt24.To], .slice (some ⟨b49, 0, none⟩) ([vt24] : List S_Star).length 1, .agg #[iV 0, .slice (some ⟨b49, 0, none⟩) ([vt24] : List S_Star).length 1, .slice none 0 0, .slice none 0 0, iV 0, iV 0, iV 0, iV 0, iV 0, iV 0, iV 0, iV 0], iV vt5, iV (Int.tmod vt5 1099511627776), .tuple #[iV vt71, iV vt72], .agg #[iV 0, .slice (some ⟨b49, 0, none⟩) ([vt24] : List S_Star).length 1, .slice none 0 0, .slice none 0 0, iV 0, iV 0, iV 0, iV 0, iV 0, iV 0, iV 0, iV 0], iV (Int.tmod vt5 1099511627776), .tuple #[iV vt71, iV vt72], iV vt71, iV vt72, .bool vt85, .bool false, .bool false, iV vt72, .bool false, .bool false, .bool false, iV vt71, .bool true, .bool true, .bool true, uV, uV, .bool true, uV, uV, uV, uV, uV, uV, uV, uV, uV, uV, uV, uV, uV, uV, uV, uV, uV, uV, uV, uV, uV, uV, uV, uV, uV, uV, uV, uV, uV, uV, uV, uV, uV, uV, uV, uV, uV, uV, uV, uV, uV, uV], []⟩) (by kernel_rfl) ?_
        refine wpList_nil ?_
        refine hK84 _ _ ?_
        refine condT (by kernel_rfl) ?_
        refine wp_seq_k (fun K98 hK99 => ?_)
        refine wp_region_lit ?_
        refine seqS1 (a' := ⟨#[.slice A2 l1.length c3, iV (Int.tmod vt5 1099511627776), iV turns6, uV, uV, uV, .bool false, .pointer (some ⟨b11, 0, none⟩), .pointer (some ⟨b36, 0, none⟩), .pointer (some ⟨b55, 0, none⟩), iV vt71, iV vt72, uV, uV, uV, .slice A2 l1.length c3, .agg #[.slice A2 l1.length c3, iV 0], .pointer (some ⟨b11, 0, none⟩), .pointer (some ⟨b11, 0, none⟩), .pointer (some ⟨b11, 0, none⟩), .agg #[iV vt17.X, iV vt17.Y, iV vt17.Z], .agg #[iV vt24.ID, iV vt24.At.X, iV vt24.At.Y, iV vt24.At.Z, iV vt24.Rate, .slice A31 vt24.Wave.length c32, iV vt24.Period, iV vt24.From, iV vt24.To], .agg #[iV vt24.ID, iV vt24.At.X, iV vt24.At.Y, iV vt24.At.Z, iV vt24.Rate, .slice A31 vt24.Wave.length c32, iV vt24.Period, iV vt24.From, iV vt24.To], .slice (some ⟨b49, 0, none⟩) ([vt24] : List S_Star).length 1, .agg #[iV 0, .slice (some ⟨b49, 0, none⟩) ([vt24] : List S_Star).length 1, .slice none 0 0, .slice none 0 0, iV 0, iV 0, iV 0, iV 0, iV 0, iV 0, iV 0, iV 0], iV vt5, iV (Int.tmod vt5 1099511627776), .tuple #[iV vt71, iV vt72], .agg #[iV 0, .slice (some ⟨b49, 0, none⟩) ([vt24] : List S_Star).length 1, .slice none 0 0, .slice none 0 0, iV 0, iV 0, iV 0, iV 0, iV 0, iV 0, iV 0, iV 0], iV (Int.tmod vt5 1099511627776), .tuple #[iV vt71, iV vt72], iV vt71, iV vt72, .bool vt85, .bool false, .bool false, iV vt72, .bool false, .bool false, .bool false, iV vt71, .bool true, .bool true, .bool true, uV, uV, .bool true, uV, uV, uV, uV, uV, uV, uV, uV, uV, uV, uV, uV, uV, uV, uV, uV, uV, uV, uV, uV, uV, uV, uV, uV, uV, uV, uV, uV, uV, uV, uV, uV, uV, uV, uV, uV, uV, uV, uV, uV, uV, uV], []⟩) (by kernel_rfl) ?_
        refine wpList_nil ?_
        refine hK99 _ _ ?_
        refine wp_ret ?_
        refine hret _ _ ?_
        refine ends_still (v := Value.bool false) (by kernel_rfl) (by kernel_rfl) ?_
        have HS155 := HS90.drop
        have HS156 := HS155.drop
        have HS157 := HS156.drop
        have HS158 := HS157.drop
        injection h with h
        subst h
        exact ⟨f87, rfl, (L21.trans (L28.trans (L46.trans (L79.trans L88)))), HS158⟩
      · have c97 : ¬ (vt71 < 0) := c97
        refine seqRwI 41 (x := (decide (vt71 < 0))) (v := false) (by kernel_rfl) (decide_eq_false c97) ?_
        refine seqRwI 42 (x := (decide (vt71 < 0))) (v := false) (by kernel_rfl) (decide_eq_false c97) ?_
        refine seqRwI 43 (x := (decide (vt71 < 0))) (v := false) (by kernel_rfl) (decide_eq_false c97) ?_
        refine seqS3 (a' := ⟨#[.slice A2 l1.length c3, iV (Int.tmod vt5 1099511627776), iV turns6, uV, uV, uV, .bool false, .pointer (some ⟨b11, 0, none⟩), .pointer (some ⟨b36, 0, none⟩), .pointer (some ⟨b55, 0, none⟩), iV vt71, iV vt72, uV, uV, uV, .slice A2 l1.length c3, .agg #[.slice A2 l1.length c3, iV 0], .pointer (some ⟨b11, 0, none⟩), .pointer (some ⟨b11, 0, none⟩), .pointer (some ⟨b11, 0, none⟩), .agg #[iV vt17.X, iV vt17.Y, iV vt17.Z], .agg #[iV vt24.ID, iV vt24.At.X, iV vt24.At.Y, iV vt24.At.Z, iV vt24.Rate, .slice A31 vt24.Wave.length c32, iV vt24.Period, iV vt24.From, iV vt24.To], .agg #[iV vt24.ID, iV vt24.At.X, iV vt24.At.Y, iV vt24.At.Z, iV vt24.Rate, .slice A31 vt24.Wave.length c32, iV vt24.Period, iV vt24.From, iV vt24.To], .slice (some ⟨b49, 0, none⟩) ([vt24] : List S_Star).length 1, .agg #[iV 0, .slice (some ⟨b49, 0, none⟩) ([vt24] : List S_Star).length 1, .slice none 0 0, .slice none 0 0, iV 0, iV 0, iV 0, iV 0, iV 0, iV 0, iV 0, iV 0], iV vt5, iV (Int.tmod vt5 1099511627776), .tuple #[iV vt71, iV vt72], .agg #[iV 0, .slice (some ⟨b49, 0, none⟩) ([vt24] : List S_Star).length 1, .slice none 0 0, .slice none 0 0, iV 0, iV 0, iV 0, iV 0, iV 0, iV 0, iV 0, iV 0], iV (Int.tmod vt5 1099511627776), .tuple #[iV vt71, iV vt72], iV vt71, iV vt72, .bool vt85, .bool false, .bool false, iV vt72, .bool false, .bool false, .bool false, iV vt71, .bool false, .bool false, .bool false, iV vt71, .bool (decide (vt71 > 1048576)), .bool (decide (vt71 > 1048576)), uV, uV, uV, uV, uV, uV, uV, uV, uV, uV, uV, uV, uV, uV, uV, uV, uV, uV, uV, uV, uV, uV, uV, uV, uV, uV, uV, uV, uV, uV, uV, uV, uV, uV, uV, uV, uV, uV, uV, uV, uV, uV], []⟩) (by kernel_rfl) ?_
        refine wpList_nil ?_
        refine hK84 _ _ ?_
        have hq_ := ite_some h; clear h; rcases hq_ with ⟨c101, h⟩ | ⟨c101, h⟩
        · have c101 : vt71 > 1048576 := c101
          refine wpRwI 45 (x := (decide (vt71 > 1048576))) (v := true) (by kernel_rfl) (decide_eq_true c101) ?_
          refine wpRwI 46 (x := (decide (vt71 > 1048576))) (v := true) (by kernel_rfl) (decide_eq_true c101) ?_
          refine condT (by kernel_rfl) ?_
          refine wp_seq_k (fun K102 hK103 => ?_)
          refine wp_region_lit ?_
          refine seqS1 (a' := ⟨#[.slice A2 l1.length c3, iV (Int.tmod vt5 1099511627776), iV turns6, uV, uV, uV, .bool false, .pointer (some ⟨b11, 0, none⟩), .pointer (some ⟨b36, 0, none⟩), .pointer (some ⟨b55, 0, none⟩), iV vt71, iV vt72, uV, uV, uV, .slice A2 l1.length c3, .agg #[.slice A2 l1.length c3, iV 0], .pointer (some ⟨b11, 0, none⟩), .pointer (some ⟨b11, 0, none⟩), .pointer (some ⟨b11, 0, none⟩), .agg #[iV vt17.X, iV vt17.Y, iV vt17.Z], .agg #[iV vt24.ID, iV vt24.At.X, iV vt24.At.Y, iV vt24.At.Z, iV vt24.Rate, .slice A31 vt24.Wave.length c32, iV vt24.Period, iV vt24.From, iV vt24.To], .agg #[iV vt24.ID, iV vt24.At.X, iV vt24.At.Y, iV vt24.At.Z, iV vt24.Rate, .slice A31 vt24.Wave.length c32, iV vt24.Period, iV vt24.From, iV vt24.To], .slice (some ⟨b49, 0, none⟩) ([vt24] : List S_Star).length 1, .agg #[iV 0, .slice (some ⟨b49, 0, none⟩) ([vt24] : List S_Star).length 1, .slice none 0 0, .slice none 0 0, iV 0, iV 0, iV 0, iV 0, iV 0, iV 0, iV 0, iV 0], iV vt5, iV (Int.tmod vt5 1099511627776), .tuple #[iV vt71, iV vt72], .agg #[iV 0, .slice (some ⟨b49, 0, none⟩) ([vt24] : List S_Star).length 1, .slice none 0 0, .slice none 0 0, iV 0, iV 0, iV 0, iV 0, iV 0, iV 0, iV 0, iV 0], iV (Int.tmod vt5 1099511627776), .tuple #[iV vt71, iV vt72], iV vt71, iV vt72, .bool vt85, .bool false, .bool false, iV vt72, .bool false, .bool false, .bool false, iV vt71, .bool false, .bool false, .bool false, iV vt71, .bool true, .bool true, uV, uV, uV, uV, uV, uV, uV, uV, uV, uV, uV, uV, uV, uV, uV, uV, uV, uV, uV, uV, uV, uV, uV, uV, uV, uV, uV, uV, uV, uV, uV, uV, uV, uV, uV, uV, uV, uV, uV, uV, uV, uV], []⟩) (by kernel_rfl) ?_
          refine wpList_nil ?_
          refine hK103 _ _ ?_
          refine wp_ret ?_
          refine hret _ _ ?_
          refine ends_still (v := Value.bool false) (by kernel_rfl) (by kernel_rfl) ?_
          have HS159 := HS90.drop
          have HS160 := HS159.drop
          have HS161 := HS160.drop
          have HS162 := HS161.drop
          injection h with h
          subst h
          exact ⟨f87, rfl, (L21.trans (L28.trans (L46.trans (L79.trans L88)))), HS162⟩
        · have c101 : ¬ (vt71 > 1048576) := c101
          refine wpRwI 45 (x := (decide (vt71 > 1048576))) (v := false) (by kernel_rfl) (decide_eq_false c101) ?_
          refine wpRwI 46 (x := (decide (vt71 > 1048576))) (v := false) (by kernel_rfl) (decide_eq_false c101) ?_
          refine condF (by kernel_rfl) ?_
          refine wp_skip ?_
          refine hK82 _ _ ?_
          refine wp_seq_k (fun K104 hK105 => ?_)
          refine wp_seq_k (fun K106 hK107 => ?_)
          refine wp_region_lit ?_
          refine seqL2 (by kernel_rfl) ?_
          refine seqK rfl (does_run (run_load rfl Try.underlying46 rfl (by kernel_rfl : _ = Value.pointer (some ⟨b36, 7, none⟩)) (HS90.u2.cell 7)) ?_)
          refine seqS2 (a' := ⟨#[.slice A2 l1.length c3, iV (Int.tmod vt5 1099511627776), iV turns6, uV, uV, uV, .bool false, .pointer (some ⟨b11, 0, none⟩), .pointer (some ⟨b36, 0, none⟩), .pointer (some ⟨b55, 0, none⟩), iV vt71, iV vt72, uV, uV, uV, .slice A2 l1.length c3, .agg #[.slice A2 l1.length c3, iV 0], .pointer (some ⟨b11, 0, none⟩), .pointer (some ⟨b11, 0, none⟩), .pointer (some ⟨b11, 0, none⟩), .agg #[iV vt17.X, iV vt17.Y, iV vt17.Z], .agg #[iV vt24.ID, iV vt24.At.X, iV vt24.At.Y, iV vt24.At.Z, iV vt24.Rate, .slice A31 vt24.Wave.length c32, iV vt24.Period, iV vt24.From, iV vt24.To], .agg #[iV vt24.ID, iV vt24.At.X, iV vt24.At.Y, iV vt24.At.Z, iV vt24.Rate, .slice A31 vt24.Wave.length c32, iV vt24.Period, iV vt24.From, iV vt24.To], .slice (some ⟨b49, 0, none⟩) ([vt24] : List S_Star).length 1, .agg #[iV 0, .slice (some ⟨b49, 0, none⟩) ([vt24] : List S_Star).length 1, .slice none 0 0, .slice none 0 0, iV 0, iV 0, iV 0, iV 0, iV 0, iV 0, iV 0, iV 0], iV vt5, iV (Int.tmod vt5 1099511627776), .tuple #[iV vt71, iV vt72], .agg #[iV 0, .slice (some ⟨b49, 0, none⟩) ([vt24] : List S_Star).length 1, .slice none 0 0, .slice none 0 0, iV 0, iV 0, iV 0, iV 0, iV 0, iV 0, iV 0, iV 0], iV (Int.tmod vt5 1099511627776), .tuple #[iV vt71, iV vt72], iV vt71, iV vt72, .bool vt85, .bool false, .bool false, iV vt72, .bool false, .bool false, .bool false, iV vt71, .bool false, .bool false, .bool false, iV vt71, .bool false, .bool false, iV (Int.tmod vt5 1099511627776), .pointer (some ⟨b36, 7, none⟩), iV vt24.From, .bool (decide ((Int.tmod vt5 1099511627776) < vt24.From)), .bool (decide ((Int.tmod vt5 1099511627776) < vt24.From)), uV, uV, uV, uV, uV, uV, uV, uV, uV, uV, uV, uV, uV, uV, uV, uV, uV, uV, uV, uV, uV, uV, uV, uV, uV, uV, uV, uV, uV, uV, uV, uV, uV, uV, uV, uV, uV], []⟩) (by kernel_rfl) ?_
          have hq_ := ite_some h; clear h; rcases hq_ with ⟨c108, h⟩ | ⟨c108, h⟩
          · have c108 : (Int.tmod vt5 1099511627776) < vt24.From := c108
            refine seqRwI 50 (x := (decide ((Int.tmod vt5 1099511627776) < vt24.From))) (v := true) (by kernel_rfl) (decide_eq_true c108) ?_
            refine seqRwI 51 (x := (decide ((Int.tmod vt5 1099511627776) < vt24.From))) (v := true) (by kernel_rfl) (decide_eq_true c108) ?_
            refine seqS5 (a' := ⟨#[.slice A2 l1.length c3, iV (Int.tmod vt5 1099511627776), iV turns6, uV, uV, uV, .bool false, .pointer (some ⟨b11, 0, none⟩), .pointer (some ⟨b36, 0, none⟩), .pointer (some ⟨b55, 0, none⟩), iV vt71, iV vt72, uV, uV, uV, .slice A2 l1.length c3, .agg #[.slice A2 l1.length c3, iV 0], .pointer (some ⟨b11, 0, none⟩), .pointer (some ⟨b11, 0, none⟩), .pointer (some ⟨b11, 0, none⟩), .agg #[iV vt17.X, iV vt17.Y, iV vt17.Z], .agg #[iV vt24.ID, iV vt24.At.X, iV vt24.At.Y, iV vt24.At.Z, iV vt24.Rate, .slice A31 vt24.Wave.length c32, iV vt24.Period, iV vt24.From, iV vt24.To], .agg #[iV vt24.ID, iV vt24.At.X, iV vt24.At.Y, iV vt24.At.Z, iV vt24.Rate, .slice A31 vt24.Wave.length c32, iV vt24.Period, iV vt24.From, iV vt24.To], .slice (some ⟨b49, 0, none⟩) ([vt24] : List S_Star).length 1, .agg #[iV 0, .slice (some ⟨b49, 0, none⟩) ([vt24] : List S_Star).length 1, .slice none 0 0, .slice none 0 0, iV 0, iV 0, iV 0, iV 0, iV 0, iV 0, iV 0, iV 0], iV vt5, iV (Int.tmod vt5 1099511627776), .tuple #[iV vt71, iV vt72], .agg #[iV 0, .slice (some ⟨b49, 0, none⟩) ([vt24] : List S_Star).length 1, .slice none 0 0, .slice none 0 0, iV 0, iV 0, iV 0, iV 0, iV 0, iV 0, iV 0, iV 0], iV (Int.tmod vt5 1099511627776), .tuple #[iV vt71, iV vt72], iV vt71, iV vt72, .bool vt85, .bool false, .bool false, iV vt72, .bool false, .bool false, .bool false, iV vt71, .bool false, .bool false, .bool false, iV vt71, .bool false, .bool false, iV (Int.tmod vt5 1099511627776), .pointer (some ⟨b36, 7, none⟩), iV vt24.From, .bool true, .bool true, uV, uV, uV, uV, .bool true, uV, uV, uV, uV, uV, uV, uV, uV, uV, uV, uV, uV, uV, uV, uV, uV, uV, uV, uV, uV, uV, uV, uV, uV, uV, uV, uV, uV, uV, uV, uV, uV], []⟩) (by kernel_rfl) ?_
            refine wpList_nil ?_
            refine hK107 _ _ ?_
            refine condT (by kernel_rfl) ?_
            refine wp_seq_k (fun K109 hK110 => ?_)
            refine wp_region_lit ?_
            refine seqS3 (a' := ⟨#[.slice A2 l1.length c3, iV (Int.tmod vt5 1099511627776), iV turns6, uV, uV, uV, .bool (vt71 == 0), .pointer (some ⟨b11, 0, none⟩), .pointer (some ⟨b36, 0, none⟩), .pointer (some ⟨b55, 0, none⟩), iV vt71, iV vt72, uV, uV, uV, .slice A2 l1.length c3, .agg #[.slice A2 l1.length c3, iV 0], .pointer (some ⟨b11, 0, none⟩), .pointer (some ⟨b11, 0, none⟩), .pointer (some ⟨b11, 0, none⟩), .agg #[iV vt17.X, iV vt17.Y, iV vt17.Z], .agg #[iV vt24.ID, iV vt24.At.X, iV vt24.At.Y, iV vt24.At.Z, iV vt24.Rate, .slice A31 vt24.Wave.length c32, iV vt24.Period, iV vt24.From, iV vt24.To], .agg #[iV vt24.ID, iV vt24.At.X, iV vt24.At.Y, iV vt24.At.Z, iV vt24.Rate, .slice A31 vt24.Wave.length c32, iV vt24.Period, iV vt24.From, iV vt24.To], .slice (some ⟨b49, 0, none⟩) ([vt24] : List S_Star).length 1, .agg #[iV 0, .slice (some ⟨b49, 0, none⟩) ([vt24] : List S_Star).length 1, .slice none 0 0, .slice none 0 0, iV 0, iV 0, iV 0, iV 0, iV 0, iV 0, iV 0, iV 0], iV vt5, iV (Int.tmod vt5 1099511627776), .tuple #[iV vt71, iV vt72], .agg #[iV 0, .slice (some ⟨b49, 0, none⟩) ([vt24] : List S_Star).length 1, .slice none 0 0, .slice none 0 0, iV 0, iV 0, iV 0, iV 0, iV 0, iV 0, iV 0, iV 0], iV (Int.tmod vt5 1099511627776), .tuple #[iV vt71, iV vt72], iV vt71, iV vt72, .bool vt85, .bool false, .bool false, iV vt72, .bool false, .bool false, .bool false, iV vt71, .bool false, .bool false, .bool false, iV vt71, .bool false, .bool false, iV (Int.tmod vt5 1099511627776), .pointer (some ⟨b36, 7, none⟩), iV vt24.From, .bool true, .bool true, uV, uV, uV, uV, .bool true, iV vt71, .bool (vt71 == 0), uV, uV, uV, uV, uV, uV, uV, uV, uV, uV, uV, uV, uV, uV, uV, uV, uV, uV, uV, uV, uV, uV, uV, uV, uV, uV, uV, uV, uV, uV], []⟩) (by kernel_rfl) ?_
            refine wpList_nil ?_
            refine hK110 _ _ ?_
            refine wp_ret ?_
            refine hret _ _ ?_
            refine ends_still (v := Value.bool (vt71 == 0)) (by kernel_rfl) (by kernel_rfl) ?_
            have HS163 := HS90.drop
            have HS164 := HS163.drop
            have HS165 := HS164.drop
            have HS166 := HS165.drop
            injection h with h
            subst h
            exact ⟨f87, rfl, (L21.trans (L28.trans (L46.trans (L79.trans L88)))), HS166⟩
          · have c108 : ¬ ((Int.tmod vt5 1099511627776) < vt24.From) := c108
            refine seqRwI 50 (x := (decide ((Int.tmod vt5 1099511627776) < vt24.From))) (v := false) (by kernel_rfl) (decide_eq_false c108) ?_
            refine seqRwI 51 (x := (decide ((Int.tmod vt5 1099511627776) < vt24.From))) (v := false) (by kernel_rfl) (decide_eq_false c108) ?_
            refine seqL2 (by kernel_rfl) ?_
            refine seqG (by kernel_rfl) (does_run (run_load rfl Try.underlying46 rfl (by kernel_rfl : _ = Value.pointer (some ⟨b36, 8, none⟩)) (HS90.u2.cell 8)) ?_)
            refine seqS2 (a' := ⟨#[.slice A2 l1.length c3, iV (Int.tmod vt5 1099511627776), iV turns6, uV, uV, uV, .bool false, .pointer (some ⟨b11, 0, none⟩), .pointer (some ⟨b36, 0, none⟩), .pointer (some ⟨b55, 0, none⟩), iV vt71, iV vt72, uV, uV, uV, .slice A2 l1.length c3, .agg #[.slice A2 l1.length c3, iV 0], .pointer (some ⟨b11, 0, none⟩), .pointer (some ⟨b11, 0, none⟩), .pointer (some ⟨b11, 0, none⟩), .agg #[iV vt17.X, iV vt17.Y, iV vt17.Z], .agg #[iV vt24.ID, iV vt24.At.X, iV vt24.At.Y, iV vt24.At.Z, iV vt24.Rate, .slice A31 vt24.Wave.length c32, iV vt24.Period, iV vt24.From, iV vt24.To], .agg #[iV vt24.ID, iV vt24.At.X, iV vt24.At.Y, iV vt24.At.Z, iV vt24.Rate, .slice A31 vt24.Wave.length c32, iV vt24.Period, iV vt24.From, iV vt24.To], .slice (some ⟨b49, 0, none⟩) ([vt24] : List S_Star).length 1, .agg #[iV 0, .slice (some ⟨b49, 0, none⟩) ([vt24] : List S_Star).length 1, .slice none 0 0, .slice none 0 0, iV 0, iV 0, iV 0, iV 0, iV 0, iV 0, iV 0, iV 0], iV vt5, iV (Int.tmod vt5 1099511627776), .tuple #[iV vt71, iV vt72], .agg #[iV 0, .slice (some ⟨b49, 0, none⟩) ([vt24] : List S_Star).length 1, .slice none 0 0, .slice none 0 0, iV 0, iV 0, iV 0, iV 0, iV 0, iV 0, iV 0, iV 0], iV (Int.tmod vt5 1099511627776), .tuple #[iV vt71, iV vt72], iV vt71, iV vt72, .bool vt85, .bool false, .bool false, iV vt72, .bool false, .bool false, .bool false, iV vt71, .bool false, .bool false, .bool false, iV vt71, .bool false, .bool false, iV (Int.tmod vt5 1099511627776), .pointer (some ⟨b36, 7, none⟩), iV vt24.From, .bool false, .bool false, iV (Int.tmod vt5 1099511627776), .pointer (some ⟨b36, 8, none⟩), iV vt24.To, .bool (decide ((Int.tmod vt5 1099511627776) ≥ vt24.To)), .bool (decide ((Int.tmod vt5 1099511627776) ≥ vt24.To)), uV, uV, uV, uV, uV, uV, uV, uV, uV, uV, uV, uV, uV, uV, uV, uV, uV, uV, uV, uV, uV, uV, uV, uV, uV, uV, uV, uV, uV, uV, uV, uV], []⟩) (by kernel_rfl) ?_
            refine wpList_nil ?_
            refine hK107 _ _ ?_
            have hq_ := ite_some h; clear h; rcases hq_ with ⟨c112, h⟩ | ⟨c112, h⟩
            · have c112 : (Int.tmod vt5 1099511627776) ≥ vt24.To := c112
              refine wpRwI 55 (x := (decide ((Int.tmod vt5 1099511627776) ≥ vt24.To))) (v := true) (by kernel_rfl) (decide_eq_true c112) ?_
              refine wpRwI 56 (x := (decide ((Int.tmod vt5 1099511627776) ≥ vt24.To))) (v := true) (by kernel_rfl) (decide_eq_true c112) ?_
              refine condT (by kernel_rfl) ?_
              refine wp_seq_k (fun K113 hK114 => ?_)
              refine wp_region_lit ?_
              refine seqS3 (a' := ⟨#[.slice A2 l1.length c3, iV (Int.tmod vt5 1099511627776), iV turns6, uV, uV, uV, .bool (vt71 == 0), .pointer (some ⟨b11, 0, none⟩), .pointer (some ⟨b36, 0, none⟩), .pointer (some ⟨b55, 0, none⟩), iV vt71, iV vt72, uV, uV, uV, .slice A2 l1.length c3, .agg #[.slice A2 l1.length c3, iV 0], .pointer (some ⟨b11, 0, none⟩), .pointer (some ⟨b11, 0, none⟩), .pointer (some ⟨b11, 0, none⟩), .agg #[iV vt17.X, iV vt17.Y, iV vt17.Z], .agg #[iV vt24.ID, iV vt24.At.X, iV vt24.At.Y, iV vt24.At.Z, iV vt24.Rate, .slice A31 vt24.Wave.length c32, iV vt24.Period, iV vt24.From, iV vt24.To], .agg #[iV vt24.ID, iV vt24.At.X, iV vt24.At.Y, iV vt24.At.Z, iV vt24.Rate, .slice A31 vt24.Wave.length c32, iV vt24.Period, iV vt24.From, iV vt24.To], .slice (some ⟨b49, 0, none⟩) ([vt24] : List S_Star).length 1, .agg #[iV 0, .slice (some ⟨b49, 0, none⟩) ([vt24] : List S_Star).length 1, .slice none 0 0, .slice none 0 0, iV 0, iV 0, iV 0, iV 0, iV 0, iV 0, iV 0, iV 0], iV vt5, iV (Int.tmod vt5 1099511627776), .tuple #[iV vt71, iV vt72], .agg #[iV 0, .slice (some ⟨b49, 0, none⟩) ([vt24] : List S_Star).length 1, .slice none 0 0, .slice none 0 0, iV 0, iV 0, iV 0, iV 0, iV 0, iV 0, iV 0, iV 0], iV (Int.tmod vt5 1099511627776), .tuple #[iV vt71, iV vt72], iV vt71, iV vt72, .bool vt85, .bool false, .bool false, iV vt72, .bool false, .bool false, .bool false, iV vt71, .bool false, .bool false, .bool false, iV vt71, .bool false, .bool false, iV (Int.tmod vt5 1099511627776), .pointer (some ⟨b36, 7, none⟩), iV vt24.From, .bool false, .bool false, iV (Int.tmod vt5 1099511627776), .pointer (some ⟨b36, 8, none⟩), iV vt24.To, .bool true, .bool true, iV vt71, .bool (vt71 == 0), uV, uV, uV, uV, uV, uV, uV, uV, uV, uV, uV, uV, uV, uV, uV, uV, uV, uV, uV, uV, uV, uV, uV, uV, uV, uV, uV, uV, uV, uV], []⟩) (by kernel_rfl) ?_
              refine wpList_nil ?_
              refine hK114 _ _ ?_
              refine wp_ret ?_
              refine hret _ _ ?_
              refine ends_still (v := Value.bool (vt71 == 0)) (by kernel_rfl) (by kernel_rfl) ?_
              have HS167 := HS90.drop
              have HS168 := HS167.drop
              have HS169 := HS168.drop
              have HS170 := HS169.drop
              injection h with h
              subst h
              exact ⟨f87, rfl, (L21.trans (L28.trans (L46.trans (L79.trans L88)))), HS170⟩
            · have c112 : ¬ ((Int.tmod vt5 1099511627776) ≥ vt24.To) := c112
              refine wpRwI 55 (x := (decide ((Int.tmod vt5 1099511627776) ≥ vt24.To))) (v := false) (by kernel_rfl) (decide_eq_false c112) ?_
              refine wpRwI 56 (x := (decide ((Int.tmod vt5 1099511627776) ≥ vt24.To))) (v := false) (by kernel_rfl) (decide_eq_false c112) ?_
              refine condF (by kernel_rfl) ?_
              refine wp_skip ?_
              refine hK105 _ _ ?_
              refine wp_seq_k (fun K115 hK116 => ?_)
              refine heldG (S := Sg t f87 (s51 :: [(b55, .cells #[.int .i64 0, .slice (some ⟨b49, 0, none⟩) ([vt24] : List S_Star).length 1, .slice none 0 0, .slice none 0 0, .int .i64 0, .int .i64 0, .int .i64 0, .int .i64 0, .int .i64 0, .int .i64 0, .int .i64 0, .int .i64 0] 69 (0, 0))] :: [(b36, .cells #[.int .i64 vt24.ID, .int .i64 vt24.At.X, .int .i64 vt24.At.Y, .int .i64 vt24.At.Z, .int .i64 vt24.Rate, .slice A31 vt24.Wave.length c32, .int .i64 vt24.Period, .int .i64 vt24.From, .int .i64 vt24.To] 62 (0, 0))] :: [(b11, .cells #[.slice A2 l1.length c3, .int .i64 vt25] 33 (0, 0))] :: H) []) (n := 8) (by kernel_rfl) rfl HS90 ?_
              intro W117 HS118
              refine takeG [0, 1, 3] (n := 8) (fuel := 5) (l' := #[true, true, false, true, false, false, false, false]) (a' := ⟨#[.slice A2 l1.length c3, iV (Int.tmod vt5 1099511627776), iV turns6, uV, uV, uV, .bool false, .pointer (some ⟨b11, 0, none⟩), .pointer (some ⟨b36, 0, none⟩), .pointer (some ⟨b55, 0, none⟩), iV vt71, iV vt72, uV, uV, uV, .slice A2 l1.length c3, .agg #[.slice A2 l1.length c3, iV 0], .pointer (some ⟨b11, 0, none⟩), .pointer (some ⟨b11, 0, none⟩), .pointer (some ⟨b11, 0, none⟩), .agg #[iV vt17.X, iV vt17.Y, iV vt17.Z], .agg #[iV vt24.ID, iV vt24.At.X, iV vt24.At.Y, iV vt24.At.Z, iV vt24.Rate, .slice A31 vt24.Wave.length c32, iV vt24.Period, iV vt24.From, iV vt24.To], .agg #[iV vt24.ID, iV vt24.At.X, iV vt24.At.Y, iV vt24.At.Z, iV vt24.Rate, .slice A31 vt24.Wave.length c32, iV vt24.Period, iV vt24.From, iV vt24.To], .slice (some ⟨b49, 0, none⟩) ([vt24] : List S_Star).length 1, .agg #[iV 0, .slice (some ⟨b49, 0, none⟩) ([vt24] : List S_Star).length 1, .slice none 0 0, .slice none 0 0, iV 0, iV 0, iV 0, iV 0, iV 0, iV 0, iV 0, iV 0], iV vt5, iV (Int.tmod vt5 1099511627776), .tuple #[iV vt71, iV vt72], .agg #[iV 0, .slice (some ⟨b49, 0, none⟩) ([vt24] : List S_Star).length 1, .slice none 0 0, .slice none 0 0, iV 0, iV 0, iV 0, iV 0, iV 0, iV 0, iV 0, iV 0], iV (Int.tmod vt5 1099511627776), .tuple #[iV vt71, iV vt72], iV vt71, iV vt72, .bool vt85, .bool false, .bool false, iV vt72, .bool false, .bool false, .bool false, iV vt71, .bool false, .bool false, .bool false, iV vt71, .bool false, .bool false, iV (Int.tmod vt5 1099511627776), .pointer (some ⟨b36, 7, none⟩), iV vt24.From, .bool false, .bool false, iV (Int.tmod vt5 1099511627776), .pointer (some ⟨b36, 8, none⟩), iV vt24.To, .bool false, .bool false, uV, uV, iV (Int.tmod vt5 1099511627776), iV turns6, uV, .pointer (some ⟨b36, 6, none⟩), uV, uV, uV, uV, uV, uV, uV, uV, uV, uV, uV, uV, uV, uV, uV, uV, uV, uV, uV, uV, uV, uV, uV, uV, uV, uV], []⟩) rfl (by kernel_rfl) (by kernel_rfl) (by kernel_rfl) hnp (Sg.g0 (Sx.of [] (FM.le.refl _) HS118)) ?_
              refine takeGQ 4 [] rfl (by kernel_rfl) (by kernel_rfl) (by kernel_rfl) (by kernel_rfl) (by kernel_rfl) (by kernel_rfl) hnp (Sg.g0 (Sx.of [] (FM.le.refl _) HS118)) (fun w_ hw_ => by obtain ⟨g_, hl_, hS_⟩ := hw_.st; exact run_load rfl Try.underlying46 rfl (by kernel_rfl : _ = Value.pointer (some ⟨b36, 6, none⟩)) (hS_.u2.cell 6)) ?_
              have hq_ := bind_some h; clear h; obtain ⟨vt119, hc120, h⟩ := hq_
              refine takeGE 2 (by kernel_rfl) rfl (by kernel_rfl) (does_call (f := 15) (args := #[.int .i64 turns6, .int .i64 100]) (by kernel_rfl) (spymake_Below.calls k turns6 100 HS118 vt119 hc120) ?_)
              rintro _ W123 ⟨f121, rfl, L122, HS124⟩
              refine ⟨_, rfl, ?_⟩
              refine ⟨(Sg.g0 (Sx.of [] L122 HS124)), ?_⟩
              refine takeG [5, 6, 7] (n := 3) (fuel := 0) (l' := #[true, true, true, true, true, true, true, true]) (a' := ⟨#[.slice A2 l1.length c3, iV (Int.tmod vt5 1099511627776), iV turns6, uV, uV, uV, .bool false, .pointer (some ⟨b11, 0, none⟩), .pointer (some ⟨b36, 0, none⟩), .pointer (some ⟨b55, 0, none⟩), iV vt71, iV vt72, iV (w64 ((Int.tmod vt5 1099511627776) + (w64 (vt119 * vt24.Period)))), uV, uV, .slice A2 l1.length c3, .agg #[.slice A2 l1.length c3, iV 0], .pointer (some ⟨b11, 0, none⟩), .pointer (some ⟨b11, 0, none⟩), .pointer (some ⟨b11, 0, none⟩), .agg #[iV vt17.X, iV vt17.Y, iV vt17.Z], .agg #[iV vt24.ID, iV vt24.At.X, iV vt24.At.Y, iV vt24.At.Z, iV vt24.Rate, .slice A31 vt24.Wave.length c32, iV vt24.Period, iV vt24.From, iV vt24.To], .agg #[iV vt24.ID, iV vt24.At.X, iV vt24.At.Y, iV vt24.At.Z, iV vt24.Rate, .slice A31 vt24.Wave.length c32, iV vt24.Period, iV vt24.From, iV vt24.To], .slice (some ⟨b49, 0, none⟩) ([vt24] : List S_Star).length 1, .agg #[iV 0, .slice (some ⟨b49, 0, none⟩) ([vt24] : List S_Star).length 1, .slice none 0 0, .slice none 0 0, iV 0, iV 0, iV 0, iV 0, iV 0, iV 0, iV 0, iV 0], iV vt5, iV (Int.tmod vt5 1099511627776), .tuple #[iV vt71, iV vt72], .agg #[iV 0, .slice (some ⟨b49, 0, none⟩) ([vt24] : List S_Star).length 1, .slice none 0 0, .slice none 0 0, iV 0, iV 0, iV 0, iV 0, iV 0, iV 0, iV 0, iV 0], iV (Int.tmod vt5 1099511627776), .tuple #[iV vt71, iV vt72], iV vt71, iV vt72, .bool vt85, .bool false, .bool false, iV vt72, .bool false, .bool false, .bool false, iV vt71, .bool false, .bool false, .bool false, iV vt71, .bool false, .bool false, iV (Int.tmod vt5 1099511627776), .pointer (some ⟨b36, 7, none⟩), iV vt24.From, .bool false, .bool false, iV (Int.tmod vt5 1099511627776), .pointer (some ⟨b36, 8, none⟩), iV vt24.To, .bool false, .bool false, uV, uV, iV (Int.tmod vt5 1099511627776), iV turns6, iV vt119, .pointer (some ⟨b36, 6, none⟩), iV vt24.Period, iV (w64 (vt119 * vt24.Period)), iV (w64 ((Int.tmod vt5 1099511627776) + (w64 (vt119 * vt24.Period)))), uV, uV, uV, uV, uV, uV, uV, uV, uV, uV, uV, uV, uV, uV, uV, uV, uV, uV, uV, uV, uV, uV, uV], []⟩) rfl (by kernel_rfl) (by kernel_rfl) (by kernel_rfl) hnp (Sg.g0 (Sx.of [] L122 HS124)) ?_
              refine doneG (by kernel_rfl) ?_ _
              refine hK116 _ _ ?_
              refine wp_seq_k (fun K125 hK126 => ?_)
              refine wp_region_lit ?_
              refine seqK rfl (does_run (run_loadN (n := 12) rfl Try.underlying69 rfl (by kernel_rfl) (by kernel_rfl : _ = Value.pointer (some ⟨b55, 0, none⟩)) (cs := [.int .i64 0, .slice (some ⟨b49, 0, none⟩) ([vt24] : List S_Star).length 1, .slice none 0 0, .slice none 0 0, .int .i64 0, .int .i64 0, .int .i64 0, .int .i64 0, .int .i64 0, .int .i64 0, .int .i64 0, .int .i64 0]) rfl (HS124.u1.cells 0 12 _ rfl)) ?_)
              obtain ⟨f127, L128, HS129, HR130, th131⟩ := (HO53.mono (L79.trans (L88.trans L122))).lend HS124
              have hq_ := bind_some h; clear h; obtain ⟨⟨vt132, vt133⟩, hc134, h⟩ := hq_
              refine seqL1 (by kernel_rfl) ?_
              refine seqK rfl (does_call (f := 25) (args := #[.agg #[.int .i64 0, .slice (some ⟨b49, 0, none⟩) ([vt24] : List S_Star).length 1, .slice none 0 0, .slice none 0 0, .int .i64 0, .int .i64 0, .int .i64 0, .int .i64 0, .int .i64 0, .int .i64 0, .int .i64 0, .int .i64 0], .int .i64 3, .int .i64 (w64 ((Int.tmod vt5 1099511627776) + (w64 (vt119 * vt24.Period))))]) (by kernel_rfl) (sky_Rate.calls k (some ⟨b49, 0, none⟩) 1 none 0 none 0 (⟨0, ([vt24] : List S_Star), ([] : List S_Galaxy), ([] : List S_Body), (⟨0, (⟨0, 0, 0⟩ : S_Vec), (⟨0, 0, 0⟩ : S_Vec), 0⟩ : S_Body)⟩ : S_Sky) 3 (w64 ((Int.tmod vt5 1099511627776) + (w64 (vt119 * vt24.Period)))) HS129 HR130 (SlR.nil _ _) (SlR.nil _ _) vt132 vt133 hc134) ?_)
              rintro _ W137 ⟨f135, rfl, L136, HS138⟩
              refine ⟨_, rfl, ?_⟩
              obtain ⟨f139, L140, HS141⟩ := th131 L136 HS138
              refine seqS5 (a' := ⟨#[.slice A2 l1.length c3, iV (Int.tmod vt5 1099511627776), iV turns6, uV, uV, uV, .bool false, .pointer (some ⟨b11, 0, none⟩), .pointer (some ⟨b36, 0, none⟩), .pointer (some ⟨b55, 0, none⟩), iV vt71, iV vt72, iV (w64 ((Int.tmod vt5 1099511627776) + (w64 (vt119 * vt24.Period)))), iV vt132, iV vt133, .slice A2 l1.length c3, .agg #[.slice A2 l1.length c3, iV 0], .pointer (some ⟨b11, 0, none⟩), .pointer (some ⟨b11, 0, none⟩), .pointer (some ⟨b11, 0, none⟩), .agg #[iV vt17.X, iV vt17.Y, iV vt17.Z], .agg #[iV vt24.ID, iV vt24.At.X, iV vt24.At.Y, iV vt24.At.Z, iV vt24.Rate, .slice A31 vt24.Wave.length c32, iV vt24.Period, iV vt24.From, iV vt24.To], .agg #[iV vt24.ID, iV vt24.At.X, iV vt24.At.Y, iV vt24.At.Z, iV vt24.Rate, .slice A31 vt24.Wave.length c32, iV vt24.Period, iV vt24.From, iV vt24.To], .slice (some ⟨b49, 0, none⟩) ([vt24] : List S_Star).length 1, .agg #[iV 0, .slice (some ⟨b49, 0, none⟩) ([vt24] : List S_Star).length 1, .slice none 0 0, .slice none 0 0, iV 0, iV 0, iV 0, iV 0, iV 0, iV 0, iV 0, iV 0], iV vt5, iV (Int.tmod vt5 1099511627776), .tuple #[iV vt71, iV vt72], .agg #[iV 0, .slice (some ⟨b49, 0, none⟩) ([vt24] : List S_Star).length 1, .slice none 0 0, .slice none 0 0, iV 0, iV 0, iV 0, iV 0, iV 0, iV 0, iV 0, iV 0], iV (Int.tmod vt5 1099511627776), .tuple #[iV vt71, iV vt72], iV vt71, iV vt72, .bool vt85, .bool false, .bool false, iV vt72, .bool false, .bool false, .bool false, iV vt71, .bool false, .bool false, .bool false, iV vt71, .bool false, .bool false, iV (Int.tmod vt5 1099511627776), .pointer (some ⟨b36, 7, none⟩), iV vt24.From, .bool false, .bool false, iV (Int.tmod vt5 1099511627776), .pointer (some ⟨b36, 8, none⟩), iV vt24.To, .bool false, .bool false, uV, uV, iV (Int.tmod vt5 1099511627776), iV turns6, iV vt119, .pointer (some ⟨b36, 6, none⟩), iV vt24.Period, iV (w64 (vt119 * vt24.Period)), iV (w64 ((Int.tmod vt5 1099511627776) + (w64 (vt119 * vt24.Period)))), .tuple #[iV vt132, iV vt133], .agg #[iV 0, .slice (some ⟨b49, 0, none⟩) ([vt24] : List S_Star).length 1, .slice none 0 0, .slice none 0 0, iV 0, iV 0, iV 0, iV 0, iV 0, iV 0, iV 0, iV 0], iV (w64 ((Int.tmod vt5 1099511627776) + (w64 (vt119 * vt24.Period)))), .tuple #[iV vt132, iV vt133], iV vt132, iV vt133, uV, uV, uV, uV, uV, uV, uV, uV, uV, uV, uV, uV, uV, uV, uV, uV, uV], []⟩) (by kernel_rfl) ?_
              refine wpList_nil ?_
              refine hK126 _ _ ?_
              refine wp_seq_k (fun K142 hK143 => ?_)
              refine wp_region_lit ?_
              refine seqS3 (a' := ⟨#[.slice A2 l1.length c3, iV (Int.tmod vt5 1099511627776), iV turns6, uV, uV, uV, .bool false, .pointer (some ⟨b11, 0, none⟩), .pointer (some ⟨b36, 0, none⟩), .pointer (some ⟨b55, 0, none⟩), iV vt71, iV vt72, iV (w64 ((Int.tmod vt5 1099511627776) + (w64 (vt119 * vt24.Period)))), iV vt132, iV vt133, .slice A2 l1.length c3, .agg #[.slice A2 l1.length c3, iV 0], .pointer (some ⟨b11, 0, none⟩), .pointer (some ⟨b11, 0, none⟩), .pointer (some ⟨b11, 0, none⟩), .agg #[iV vt17.X, iV vt17.Y, iV vt17.Z], .agg #[iV vt24.ID, iV vt24.At.X, iV vt24.At.Y, iV vt24.At.Z, iV vt24.Rate, .slice A31 vt24.Wave.length c32, iV vt24.Period, iV vt24.From, iV vt24.To], .agg #[iV vt24.ID, iV vt24.At.X, iV vt24.At.Y, iV vt24.At.Z, iV vt24.Rate, .slice A31 vt24.Wave.length c32, iV vt24.Period, iV vt24.From, iV vt24.To], .slice (some ⟨b49, 0, none⟩) ([vt24] : List S_Star).length 1, .agg #[iV 0, .slice (some ⟨b49, 0, none⟩) ([vt24] : List S_Star).length 1, .slice none 0 0, .slice none 0 0, iV 0, iV 0, iV 0, iV 0, iV 0, iV 0, iV 0, iV 0], iV vt5, iV (Int.tmod vt5 1099511627776), .tuple #[iV vt71, iV vt72], .agg #[iV 0, .slice (some ⟨b49, 0, none⟩) ([vt24] : List S_Star).length 1, .slice none 0 0, .slice none 0 0, iV 0, iV 0, iV 0, iV 0, iV 0, iV 0, iV 0, iV 0], iV (Int.tmod vt5 1099511627776), .tuple #[iV vt71, iV vt72], iV vt71, iV vt72, .bool vt85, .bool false, .bool false, iV vt72, .bool false, .bool false, .bool false, iV vt71, .bool false, .bool false, .bool false, iV vt71, .bool false, .bool false, iV (Int.tmod vt5 1099511627776), .pointer (some ⟨b36, 7, none⟩), iV vt24.From, .bool false, .bool false, iV (Int.tmod vt5 1099511627776), .pointer (some ⟨b36, 8, none⟩), iV vt24.To, .bool false, .bool false, uV, uV, iV (Int.tmod vt5 1099511627776), iV turns6, iV vt119, .pointer (some ⟨b36, 6, none⟩), iV vt24.Period, iV (w64 (vt119 * vt24.Period)), iV (w64 ((Int.tmod vt5 1099511627776) + (w64 (vt119 * vt24.Period)))), .tuple #[iV vt132, iV vt133], .agg #[iV 0, .slice (some ⟨b49, 0, none⟩) ([vt24] : List S_Star).length 1, .slice none 0 0, .slice none 0 0, iV 0, iV 0, iV 0, iV 0, iV 0, iV 0, iV 0, iV 0], iV (w64 ((Int.tmod vt5 1099511627776) + (w64 (vt119 * vt24.Period)))), .tuple #[iV vt132, iV vt133], iV vt132, iV vt133, iV vt133, .bool (vt133 == 0), .bool (vt133 == 0), uV, uV, uV, uV, uV, uV, uV, uV, uV, uV, uV, uV, uV, uV], []⟩) (by kernel_rfl) ?_
              have hq_ := ite_some h; clear h; rcases hq_ with ⟨c144, h⟩ | ⟨c144, h⟩
              · have c144 : vt133 = 0 := c144
                refine seqRwI 73 (x := (vt133 == 0)) (v := true) (by kernel_rfl) (beq_iff_eq.mpr c144) ?_
                refine seqRwI 74 (x := (vt133 == 0)) (v := true) (by kernel_rfl) (beq_iff_eq.mpr c144) ?_
                refine seqS4 (a' := ⟨#[.slice A2 l1.length c3, iV (Int.tmod vt5 1099511627776), iV turns6, uV, uV, uV, .bool false, .pointer (some ⟨b11, 0, none⟩), .pointer (some ⟨b36, 0, none⟩), .pointer (some ⟨b55, 0, none⟩), iV vt71, iV vt72, iV (w64 ((Int.tmod vt5 1099511627776) + (w64 (vt119 * vt24.Period)))), iV vt132, iV vt133, .slice A2 l1.length c3, .agg #[.slice A2 l1.length c3, iV 0], .pointer (some ⟨b11, 0, none⟩), .pointer (some ⟨b11, 0, none⟩), .pointer (some ⟨b11, 0, none⟩), .agg #[iV vt17.X, iV vt17.Y, iV vt17.Z], .agg #[iV vt24.ID, iV vt24.At.X, iV vt24.At.Y, iV vt24.At.Z, iV vt24.Rate, .slice A31 vt24.Wave.length c32, iV vt24.Period, iV vt24.From, iV vt24.To], .agg #[iV vt24.ID, iV vt24.At.X, iV vt24.At.Y, iV vt24.At.Z, iV vt24.Rate, .slice A31 vt24.Wave.length c32, iV vt24.Period, iV vt24.From, iV vt24.To], .slice (some ⟨b49, 0, none⟩) ([vt24] : List S_Star).length 1, .agg #[iV 0, .slice (some ⟨b49, 0, none⟩) ([vt24] : List S_Star).length 1, .slice none 0 0, .slice none 0 0, iV 0, iV 0, iV 0, iV 0, iV 0, iV 0, iV 0, iV 0], iV vt5, iV (Int.tmod vt5 1099511627776), .tuple #[iV vt71, iV vt72], .agg #[iV 0, .slice (some ⟨b49, 0, none⟩) ([vt24] : List S_Star).length 1, .slice none 0 0, .slice none 0 0, iV 0, iV 0, iV 0, iV 0, iV 0, iV 0, iV 0, iV 0], iV (Int.tmod vt5 1099511627776), .tuple #[iV vt71, iV vt72], iV vt71, iV vt72, .bool vt85, .bool false, .bool false, iV vt72, .bool false, .bool false, .bool false, iV vt71, .bool false, .bool false, .bool false, iV vt71, .bool false, .bool false, iV (Int.tmod vt5 1099511627776), .pointer (some ⟨b36, 7, none⟩), iV vt24.From, .bool false, .bool false, iV (Int.tmod vt5 1099511627776), .pointer (some ⟨b36, 8, none⟩), iV vt24.To, .bool false, .bool false, uV, uV, iV (Int.tmod vt5 1099511627776), iV turns6, iV vt119, .pointer (some ⟨b36, 6, none⟩), iV vt24.Period, iV (w64 (vt119 * vt24.Period)), iV (w64 ((Int.tmod vt5 1099511627776) + (w64 (vt119 * vt24.Period)))), .tuple #[iV vt132, iV vt133], .agg #[iV 0, .slice (some ⟨b49, 0, none⟩) ([vt24] : List S_Star).length 1, .slice none 0 0, .slice none 0 0, iV 0, iV 0, iV 0, iV 0, iV 0, iV 0, iV 0, iV 0], iV (w64 ((Int.tmod vt5 1099511627776) + (w64 (vt119 * vt24.Period)))), .tuple #[iV vt132, iV vt133], iV vt132, iV vt133, iV vt133, .bool true, .bool true, iV vt132, iV vt71, .bool (vt132 == vt71), .bool (vt132 == vt71), uV, uV, uV, uV, uV, uV, uV, uV, uV, uV], []⟩) (by kernel_rfl) ?_
                have hq_ := ite_some h; clear h; rcases hq_ with ⟨c145, h⟩ | ⟨c145, h⟩
                · have c145 : vt132 = vt71 := c145
                  refine seqRwI 77 (x := (vt132 == vt71)) (v := true) (by kernel_rfl) (beq_iff_eq.mpr c145) ?_
                  refine seqRwI 78 (x := (vt132 == vt71)) (v := true) (by kernel_rfl) (beq_iff_eq.mpr c145) ?_
                  refine seqS11 (a' := ⟨#[.slice A2 l1.length c3, iV (Int.tmod vt5 1099511627776), iV turns6, uV, uV, uV, .bool true, .pointer (some ⟨b11, 0, none⟩), .pointer (some ⟨b36, 0, none⟩), .pointer (some ⟨b55, 0, none⟩), iV vt71, iV vt72, iV (w64 ((Int.tmod vt5 1099511627776) + (w64 (vt119 * vt24.Period)))), iV vt132, iV vt133, .slice A2 l1.length c3, .agg #[.slice A2 l1.length c3, iV 0], .pointer (some ⟨b11, 0, none⟩), .pointer (some ⟨b11, 0, none⟩), .pointer (some ⟨b11, 0, none⟩), .agg #[iV vt17.X, iV vt17.Y, iV vt17.Z], .agg #[iV vt24.ID, iV vt24.At.X, iV vt24.At.Y, iV vt24.At.Z, iV vt24.Rate, .slice A31 vt24.Wave.length c32, iV vt24.Period, iV vt24.From, iV vt24.To], .agg #[iV vt24.ID, iV vt24.At.X, iV vt24.At.Y, iV vt24.At.Z, iV vt24.Rate, .slice A31 vt24.Wave.length c32, iV vt24.Period, iV vt24.From, iV vt24.To], .slice (some ⟨b49, 0, none⟩) ([vt24] : List S_Star).length 1, .agg #[iV 0, .slice (some ⟨b49, 0, none⟩) ([vt24] : List S_Star).length 1, .slice none 0 0, .slice none 0 0, iV 0, iV 0, iV 0, iV 0, iV 0, iV 0, iV 0, iV 0], iV vt5, iV (Int.tmod vt5 1099511627776), .tuple #[iV vt71, iV vt72], .agg #[iV 0, .slice (some ⟨b49, 0, none⟩) ([vt24] : List S_Star).length 1, .slice none 0 0, .slice none 0 0, iV 0, iV 0, iV 0, iV 0, iV 0, iV 0, iV 0, iV 0], iV (Int.tmod vt5 1099511627776), .tuple #[iV vt71, iV vt72], iV vt71, iV vt72, .bool vt85, .bool false, .bool false, iV vt72, .bool false, .bool false, .bool false, iV vt71, .bool false, .bool false, .bool false, iV vt71, .bool false, .bool false, iV (Int.tmod vt5 1099511627776), .pointer (some ⟨b36, 7, none⟩), iV vt24.From, .bool false, .bool false, iV (Int.tmod vt5 1099511627776), .pointer (some ⟨b36, 8, none⟩), iV vt24.To, .bool false, .bool false, uV, uV, iV (Int.tmod vt5 1099511627776), iV turns6, iV vt119, .pointer (some ⟨b36, 6, none⟩), iV vt24.Period, iV (w64 (vt119 * vt24.Period)), iV (w64 ((Int.tmod vt5 1099511627776) + (w64 (vt119 * vt24.Period)))), .tuple #[iV vt132, iV vt133], .agg #[iV 0, .slice (some ⟨b49, 0, none⟩) ([vt24] : List S_Star).length 1, .slice none 0 0, .slice none 0 0, iV 0, iV 0, iV 0, iV 0, iV 0, iV 0, iV 0, iV 0], iV (w64 ((Int.tmod vt5 1099511627776) + (w64 (vt119 * vt24.Period)))), .tuple #[iV vt132, iV vt133], iV vt132, iV vt133, iV vt133, .bool true, .bool true, iV vt132, iV vt71, .bool true, .bool true, uV, uV, uV, uV, uV, uV, uV, uV, .bool true, .bool true], []⟩) (by kernel_rfl) ?_
                  refine wpList_nil ?_
                  refine hK143 _ _ ?_
                  refine wp_ret ?_
                  refine hret _ _ ?_
                  refine ends_still (v := Value.bool true) (by kernel_rfl) (by kernel_rfl) ?_
                  have HS171 := HS141.drop
                  have HS172 := HS171.drop
                  have HS173 := HS172.drop
                  have HS174 := HS173.drop
                  injection h with h
                  subst h
                  exact ⟨f139, rfl, (L21.trans (L28.trans (L46.trans (L79.trans (L88.trans (L122.trans L140)))))), HS174⟩
                · have c145 : ¬ (vt132 = vt71) := c145
                  refine seqRwI 77 (x := (vt132 == vt71)) (v := false) (by kernel_rfl) (beq_eq_false_iff_ne.mpr c145) ?_
                  refine seqRwI 78 (x := (vt132 == vt71)) (v := false) (by kernel_rfl) (beq_eq_false_iff_ne.mpr c145) ?_
                  refine seqL2 (by kernel_rfl) ?_
                  refine seqG (by kernel_rfl) (does_run (run_load rfl Try.underlying46 rfl (by kernel_rfl : _ = Value.pointer (some ⟨b36, 8, none⟩)) (HS141.u2.cell 8)) ?_)
                  refine seqS2 (a' := ⟨#[.slice A2 l1.length c3, iV (Int.tmod vt5 1099511627776), iV turns6, uV, uV, uV, .bool false, .pointer (some ⟨b11, 0, none⟩), .pointer (some ⟨b36, 0, none⟩), .pointer (some ⟨b55, 0, none⟩), iV vt71, iV vt72, iV (w64 ((Int.tmod vt5 1099511627776) + (w64 (vt119 * vt24.Period)))), iV vt132, iV vt133, .slice A2 l1.length c3, .agg #[.slice A2 l1.length c3, iV 0], .pointer (some ⟨b11, 0, none⟩), .pointer (some ⟨b11, 0, none⟩), .pointer (some ⟨b11, 0, none⟩), .agg #[iV vt17.X, iV vt17.Y, iV vt17.Z], .agg #[iV vt24.ID, iV vt24.At.X, iV vt24.At.Y, iV vt24.At.Z, iV vt24.Rate, .slice A31 vt24.Wave.length c32, iV vt24.Period, iV vt24.From, iV vt24.To], .agg #[iV vt24.ID, iV vt24.At.X, iV vt24.At.Y, iV vt24.At.Z, iV vt24.Rate, .slice A31 vt24.Wave.length c32, iV vt24.Period, iV vt24.From, iV vt24.To], .slice (some ⟨b49, 0, none⟩) ([vt24] : List S_Star).length 1, .agg #[iV 0, .slice (some ⟨b49, 0, none⟩) ([vt24] : List S_Star).length 1, .slice none 0 0, .slice none 0 0, iV 0, iV 0, iV 0, iV 0, iV 0, iV 0, iV 0, iV 0], iV vt5, iV (Int.tmod vt5 1099511627776), .tuple #[iV vt71, iV vt72], .agg #[iV 0, .slice (some ⟨b49, 0, none⟩) ([vt24] : List S_Star).length 1, .slice none 0 0, .slice none 0 0, iV 0, iV 0, iV 0, iV 0, iV 0, iV 0, iV 0, iV 0], iV (Int.tmod vt5 1099511627776), .tuple #[iV vt71, iV vt72], iV vt71, iV vt72, .bool vt85, .bool false, .bool false, iV vt72, .bool false, .bool false, .bool false, iV vt71, .bool false, .bool false, .bool false, iV vt71, .bool false, .bool false, iV (Int.tmod vt5 1099511627776), .pointer (some ⟨b36, 7, none⟩), iV vt24.From, .bool false, .bool false, iV (Int.tmod vt5 1099511627776), .pointer (some ⟨b36, 8, none⟩), iV vt24.To, .bool false, .bool false, uV, uV, iV (Int.tmod vt5 1099511627776), iV turns6, iV vt119, .pointer (some ⟨b36, 6, none⟩), iV vt24.Period, iV (w64 (vt119 * vt24.Period)), iV (w64 ((Int.tmod vt5 1099511627776) + (w64 (vt119 * vt24.Period)))), .tuple #[iV vt132, iV vt133], .agg #[iV 0, .slice (some ⟨b49, 0, none⟩) ([vt24] : List S_Star).length 1, .slice none 0 0, .slice none 0 0, iV 0, iV 0, iV 0, iV 0, iV 0, iV 0, iV 0, iV 0], iV (w64 ((Int.tmod vt5 1099511627776) + (w64 (vt119 * vt24.Period)))), .tuple #[iV vt132, iV vt133], iV vt132, iV vt133, iV vt133, .bool true, .bool true, iV vt132, iV vt71, .bool false, .bool false, iV (w64 ((Int.tmod vt5 1099511627776) + (w64 (vt119 * vt24.Period)))), .pointer (some ⟨b36, 8, none⟩), iV vt24.To, .bool (decide ((w64 ((Int.tmod vt5 1099511627776) + (w64 (vt119 * vt24.Period)))) ≥ vt24.To)), .bool (decide ((w64 ((Int.tmod vt5 1099511627776) + (w64 (vt119 * vt24.Period)))) ≥ vt24.To)), uV, uV, uV, uV, uV], []⟩) (by kernel_rfl) ?_
                  have hq_ := ite_some h; clear h; rcases hq_ with ⟨c146, h⟩ | ⟨c146, h⟩
                  · have c146 : (w64 ((Int.tmod vt5 1099511627776) + (w64 (vt119 * vt24.Period)))) ≥ vt24.To := c146
                    refine seqRwI 82 (x := (decide ((w64 ((Int.tmod vt5 1099511627776) + (w64 (vt119 * vt24.Period)))) ≥ vt24.To))) (v := true) (by kernel_rfl) (decide_eq_true c146) ?_
                    refine seqRwI 83 (x := (decide ((w64 ((Int.tmod vt5 1099511627776) + (w64 (vt119 * vt24.Period)))) ≥ vt24.To))) (v := true) (by kernel_rfl) (decide_eq_true c146) ?_
                    refine seqS6 (a' := ⟨#[.slice A2 l1.length c3, iV (Int.tmod vt5 1099511627776), iV turns6, uV, uV, uV, .bool (vt132 == 0), .pointer (some ⟨b11, 0, none⟩), .pointer (some ⟨b36, 0, none⟩), .pointer (some ⟨b55, 0, none⟩), iV vt71, iV vt72, iV (w64 ((Int.tmod vt5 1099511627776) + (w64 (vt119 * vt24.Period)))), iV vt132, iV vt133, .slice A2 l1.length c3, .agg #[.slice A2 l1.length c3, iV 0], .pointer (some ⟨b11, 0, none⟩), .pointer (some ⟨b11, 0, none⟩), .pointer (some ⟨b11, 0, none⟩), .agg #[iV vt17.X, iV vt17.Y, iV vt17.Z], .agg #[iV vt24.ID, iV vt24.At.X, iV vt24.At.Y, iV vt24.At.Z, iV vt24.Rate, .slice A31 vt24.Wave.length c32, iV vt24.Period, iV vt24.From, iV vt24.To], .agg #[iV vt24.ID, iV vt24.At.X, iV vt24.At.Y, iV vt24.At.Z, iV vt24.Rate, .slice A31 vt24.Wave.length c32, iV vt24.Period, iV vt24.From, iV vt24.To], .slice (some ⟨b49, 0, none⟩) ([vt24] : List S_Star).length 1, .agg #[iV 0, .slice (some ⟨b49, 0, none⟩) ([vt24] : List S_Star).length 1, .slice none 0 0, .slice none 0 0, iV 0, iV 0, iV 0, iV 0, iV 0, iV 0, iV 0, iV 0], iV vt5, iV (Int.tmod vt5 1099511627776), .tuple #[iV vt71, iV vt72], .agg #[iV 0, .slice (some ⟨b49, 0, none⟩) ([vt24] : List S_Star).length 1, .slice none 0 0, .slice none 0 0, iV 0, iV 0, iV 0, iV 0, iV 0, iV 0, iV 0, iV 0], iV (Int.tmod vt5 1099511627776), .tuple #[iV vt71, iV vt72], iV vt71, iV vt72, .bool vt85, .bool false, .bool false, iV vt72, .bool false, .bool false, .bool false, iV vt71, .bool false, .bool false, .bool false, iV vt71, .bool false, .bool false, iV (Int.tmod vt5 1099511627776), .pointer (some ⟨b36, 7, none⟩), iV vt24.From, .bool false, .bool false, iV (Int.tmod vt5 1099511627776), .pointer (some ⟨b36, 8, none⟩), iV vt24.To, .bool false, .bool false, uV, uV, iV (Int.tmod vt5 1099511627776), iV turns6, iV vt119, .pointer (some ⟨b36, 6, none⟩), iV vt24.Period, iV (w64 (vt119 * vt24.Period)), iV (w64 ((Int.tmod vt5 1099511627776) + (w64 (vt119 * vt24.Period)))), .tuple #[iV vt132, iV vt133], .agg #[iV 0, .slice (some ⟨b49, 0, none⟩) ([vt24] : List S_Star).length 1, .slice none 0 0, .slice none 0 0, iV 0, iV 0, iV 0, iV 0, iV 0, iV 0, iV 0, iV 0], iV (w64 ((Int.tmod vt5 1099511627776) + (w64 (vt119 * vt24.Period)))), .tuple #[iV vt132, iV vt133], iV vt132, iV vt133, iV vt133, .bool true, .bool true, iV vt132, iV vt71, .bool false, .bool false, iV (w64 ((Int.tmod vt5 1099511627776) + (w64 (vt119 * vt24.Period)))), .pointer (some ⟨b36, 8, none⟩), iV vt24.To, .bool true, .bool true, iV vt132, .bool (vt132 == 0), .bool (vt132 == 0), .bool (vt132 == 0), .bool (vt132 == 0)], []⟩) (by kernel_rfl) ?_
                    refine wpList_nil ?_
                    refine hK143 _ _ ?_
                    refine wp_ret ?_
                    refine hret _ _ ?_
                    refine ends_still (v := Value.bool (vt132 == 0)) (by kernel_rfl) (by kernel_rfl) ?_
                    have HS175 := HS141.drop
                    have HS176 := HS175.drop
                    have HS177 := HS176.drop
                    have HS178 := HS177.drop
                    injection h with h
                    subst h
                    exact ⟨f139, rfl, (L21.trans (L28.trans (L46.trans (L79.trans (L88.trans (L122.trans L140)))))), HS178⟩
                  · have c146 : ¬ ((w64 ((Int.tmod vt5 1099511627776) + (w64 (vt119 * vt24.Period)))) ≥ vt24.To) := c146
                    refine seqRwI 82 (x := (decide ((w64 ((Int.tmod vt5 1099511627776) + (w64 (vt119 * vt24.Period)))) ≥ vt24.To))) (v := false) (by kernel_rfl) (decide_eq_false c146) ?_
                    refine seqRwI 83 (x := (decide ((w64 ((Int.tmod vt5 1099511627776) + (w64 (vt119 * vt24.Period)))) ≥ vt24.To))) (v := false) (by kernel_rfl) (decide_eq_false c146) ?_
                    refine seqS6 (a' := ⟨#[.slice A2 l1.length c3, iV (Int.tmod vt5 1099511627776), iV turns6, uV, uV, uV, .bool false, .pointer (some ⟨b11, 0, none⟩), .pointer (some ⟨b36, 0, none⟩), .pointer (some ⟨b55, 0, none⟩), iV vt71, iV vt72, iV (w64 ((Int.tmod vt5 1099511627776) + (w64 (vt119 * vt24.Period)))), iV vt132, iV vt133, .slice A2 l1.length c3, .agg #[.slice A2 l1.length c3, iV 0], .pointer (some ⟨b11, 0, none⟩), .pointer (some ⟨b11, 0, none⟩), .pointer (some ⟨b11, 0, none⟩), .agg #[iV vt17.X, iV vt17.Y, iV vt17.Z], .agg #[iV vt24.ID, iV vt24.At.X, iV vt24.At.Y, iV vt24.At.Z, iV vt24.Rate, .slice A31 vt24.Wave.length c32, iV vt24.Period, iV vt24.From, iV vt24.To], .agg #[iV vt24.ID, iV vt24.At.X, iV vt24.At.Y, iV vt24.At.Z, iV vt24.Rate, .slice A31 vt24.Wave.length c32, iV vt24.Period, iV vt24.From, iV vt24.To], .slice (some ⟨b49, 0, none⟩) ([vt24] : List S_Star).length 1, .agg #[iV 0, .slice (some ⟨b49, 0, none⟩) ([vt24] : List S_Star).length 1, .slice none 0 0, .slice none 0 0, iV 0, iV 0, iV 0, iV 0, iV 0, iV 0, iV 0, iV 0], iV vt5, iV (Int.tmod vt5 1099511627776), .tuple #[iV vt71, iV vt72], .agg #[iV 0, .slice (some ⟨b49, 0, none⟩) ([vt24] : List S_Star).length 1, .slice none 0 0, .slice none 0 0, iV 0, iV 0, iV 0, iV 0, iV 0, iV 0, iV 0, iV 0], iV (Int.tmod vt5 1099511627776), .tuple #[iV vt71, iV vt72], iV vt71, iV vt72, .bool vt85, .bool false, .bool false, iV vt72, .bool false, .bool false, .bool false, iV vt71, .bool false, .bool false, .bool false, iV vt71, .bool false, .bool false, iV (Int.tmod vt5 1099511627776), .pointer (some ⟨b36, 7, none⟩), iV vt24.From, .bool false, .bool false, iV (Int.tmod vt5 1099511627776), .pointer (some ⟨b36, 8, none⟩), iV vt24.To, .bool false, .bool false, uV, uV, iV (Int.tmod vt5 1099511627776), iV turns6, iV vt119, .pointer (some ⟨b36, 6, none⟩), iV vt24.Period, iV (w64 (vt119 * vt24.Period)), iV (w64 ((Int.tmod vt5 1099511627776) + (w64 (vt119 * vt24.Period)))), .tuple #[iV vt132, iV vt133], .agg #[iV 0, .slice (some ⟨b49, 0, none⟩) ([vt24] : List S_Star).length 1, .slice none 0 0, .slice none 0 0, iV 0, iV 0, iV 0, iV 0, iV 0, iV 0, iV 0, iV 0], iV (w64 ((Int.tmod vt5 1099511627776) + (w64 (vt119 * vt24.Period)))), .tuple #[iV vt132, iV vt133], iV vt132, iV vt133, iV vt133, .bool true, .bool true, iV vt132, iV vt71, .bool false, .bool false, iV (w64 ((Int.tmod vt5 1099511627776) + (w64 (vt119 * vt24.Period)))), .pointer (some ⟨b36, 8, none⟩), iV vt24.To, .bool false, .bool false, uV, uV, .bool false, .bool false, .bool false], []⟩) (by kernel_rfl) ?_
                    refine wpList_nil ?_
                    refine hK143 _ _ ?_
                    refine wp_ret ?_
                    refine hret _ _ ?_
                    refine ends_still (v := Value.bool false) (by kernel_rfl) (by kernel_rfl) ?_
                    have HS179 := HS141.drop
                    have HS180 := HS179.drop
                    have HS181 := HS180.drop
                    have HS182 := HS181.drop
                    injection h with h
                    subst h
                    exact ⟨f139, rfl, (L21.trans (L28.trans (L46.trans (L79.trans (L88.trans (L122.trans L140)))))), HS182⟩
              · have c144 : ¬ (vt133 = 0) := c144
                refine seqRwI 73 (x := (vt133 == 0)) (v := false) (by kernel_rfl) (beq_eq_false_iff_ne.mpr c144) ?_
                refine seqRwI 74 (x := (vt133 == 0)) (v := false) (by kernel_rfl) (beq_eq_false_iff_ne.mpr c144) ?_
                refine seqS15 (a' := ⟨#[.slice A2 l1.length c3, iV (Int.tmod vt5 1099511627776), iV turns6, uV, uV, uV, .bool false, .pointer (some ⟨b11, 0, none⟩), .pointer (some ⟨b36, 0, none⟩), .pointer (some ⟨b55, 0, none⟩), iV vt71, iV vt72, iV (w64 ((Int.tmod vt5 1099511627776) + (w64 (vt119 * vt24.Period)))), iV vt132, iV vt133, .slice A2 l1.length c3, .agg #[.slice A2 l1.length c3, iV 0], .pointer (some ⟨b11, 0, none⟩), .pointer (some ⟨b11, 0, none⟩), .pointer (some ⟨b11, 0, none⟩), .agg #[iV vt17.X, iV vt17.Y, iV vt17.Z], .agg #[iV vt24.ID, iV vt24.At.X, iV vt24.At.Y, iV vt24.At.Z, iV vt24.Rate, .slice A31 vt24.Wave.length c32, iV vt24.Period, iV vt24.From, iV vt24.To], .agg #[iV vt24.ID, iV vt24.At.X, iV vt24.At.Y, iV vt24.At.Z, iV vt24.Rate, .slice A31 vt24.Wave.length c32, iV vt24.Period, iV vt24.From, iV vt24.To], .slice (some ⟨b49, 0, none⟩) ([vt24] : List S_Star).length 1, .agg #[iV 0, .slice (some ⟨b49, 0, none⟩) ([vt24] : List S_Star).length 1, .slice none 0 0, .slice none 0 0, iV 0, iV 0, iV 0, iV 0, iV 0, iV 0, iV 0, iV 0], iV vt5, iV (Int.tmod vt5 1099511627776), .tuple #[iV vt71, iV vt72], .agg #[iV 0, .slice (some ⟨b49, 0, none⟩) ([vt24] : List S_Star).length 1, .slice none 0 0, .slice none 0 0, iV 0, iV 0, iV 0, iV 0, iV 0, iV 0, iV 0, iV 0], iV (Int.tmod vt5 1099511627776), .tuple #[iV vt71, iV vt72], iV vt71, iV vt72, .bool vt85, .bool false, .bool false, iV vt72, .bool false, .bool false, .bool false, iV vt71, .bool false, .bool false, .bool false, iV vt71, .bool false, .bool false, iV (Int.tmod vt5 1099511627776), .pointer (some ⟨b36, 7, none⟩), iV vt24.From, .bool false, .bool false, iV (Int.tmod vt5 1099511627776), .pointer (some ⟨b36, 8, none⟩), iV vt24.To, .bool false, .bool false, uV, uV, iV (Int.tmod vt5 1099511627776), iV turns6, iV vt119, .pointer (some ⟨b36, 6, none⟩), iV vt24.Period, iV (w64 (vt119 * vt24.Period)), iV (w64 ((Int.tmod vt5 1099511627776) + (w64 (vt119 * vt24.Period)))), .tuple #[iV vt132, iV vt133], .agg #[iV 0, .slice (some ⟨b49, 0, none⟩) ([vt24] : List S_Star).length 1, .slice none 0 0, .slice none 0 0, iV 0, iV 0, iV 0, iV 0, iV 0, iV 0, iV 0, iV 0], iV (w64 ((Int.tmod vt5 1099511627776) + (w64 (vt119 * vt24.Period)))), .tuple #[iV vt132, iV vt133], iV vt132, iV vt133, iV vt133, .bool false, .bool false, uV, uV, uV, uV, uV, uV, uV, uV, uV, uV, uV, uV, uV, .bool false], []⟩) (by kernel_rfl) ?_
                refine wpList_nil ?_
                refine hK143 _ _ ?_
                refine wp_ret ?_
                refine hret _ _ ?_
                refine ends_still (v := Value.bool false) (by kernel_rfl) (by kernel_rfl) ?_
                have HS183 := HS141.drop
                have HS184 := HS183.drop
                have HS185 := HS184.drop
                have HS186 := HS185.drop
                injection h with h
                subst h
                exact ⟨f139, rfl, (L21.trans (L28.trans (L46.trans (L79.trans (L88.trans (L122.trans L140)))))), HS186⟩

end Go.Sp.U7
