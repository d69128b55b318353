import Derived.Test.YtdogeeomknanpaaProg
import Derived.Test.YtdogeeomknanpaaSpCopy
import Derived.Test.YtdogeeomknanpaaFU4
import Derived.Test.YtdogeeomknanpaaSpNest
import Derived.Test.YtdogeeomknanpaaKU4n0
namespace Go.Sp.U4
open Go Go.Sp Go.Proofs
set_option linter.unusedVariables false
attribute [local irreducible] wpList AnyL Code.wp Calls Does
set_option maxRecDepth 100000 in
set_option maxHeartbeats 4000000 in
theorem clean_Check.calls (k : Nat) (A2 : Option Addr) (c3 : Nat) (c1 : S_Cells) {t w : World} {f : FM} {H : List Seg} (HS : St t w f (H)) (HR4 : SlR ty_Bound f A2 c3 c1.At) (r1 : Int) (h : clean_Check k c1 = some r1) :
    Calls Try.prog 63 #[.agg #[.int .i64 c1.W, .int .i64 c1.H, .slice A2 c1.At.length c3]] w (fun e w' => ∃ (g : FM), e = .returned (Value.int .i64 r1) ∧ FM.le f g ∧ St t w' g (H)) := by
  unfold clean_Check at h
  refine enter Try.func63 rfl (tm := #[.agg #[iV c1.W, iV c1.H, .slice A2 c1.At.length c3], uV, uV, uV, uV, uV, uV, uV, uV, uV, uV, uV, uV, uV, uV, uV, uV, uV, uV, uV, uV, uV, uV, uV, uV, uV, uV, uV, uV, uV, uV, uV, uV, uV, uV, uV, uV, uV, uV, uV, uV, uV, uV, uV, uV, uV, uV, uV, uV, uV, uV, uV]) (by kernel_rfl) ?_
  intro B hret hnor hnp
  refine wp_seq_k (fun K5 hK6 => ?_)
  refine wp_region_lit ?_
  refine seqK rfl (does_box (cs := #[.int .i64 c1.W, .int .i64 c1.H, .slice A2 c1.At.length c3]) rfl (by kernel_rfl : _ = Value.agg #[.int .i64 c1.W, .int .i64 c1.H, .slice A2 c1.At.length c3]) rfl HS ?_)
  intro b7 W8 HS9
  refine seqS1 (a' := ⟨#[.agg #[iV c1.W, iV c1.H, .slice A2 c1.At.length c3], .pointer (some ⟨b7, 0, none⟩), iV 0, uV, uV, uV, uV, uV, uV, uV, uV, uV, uV, uV, uV, uV, uV, uV, uV, uV, uV, uV, uV, uV, uV, uV, uV, uV, uV, uV, uV, uV, uV, uV, uV, uV, uV, uV, uV, uV, uV, uV, uV, uV, uV, uV, uV, uV, uV, uV, uV, uV], []⟩) (by kernel_rfl) ?_
  refine wpList_nil ?_
  refine hK6 _ _ ?_
  refine wp_seq_k (fun K11 hK12 => ?_)
  refine wp_seq_k (fun K13 hK14 => ?_)
  refine wp_region_lit ?_
  refine seqL1 (by kernel_rfl) ?_
  refine seqK rfl (does_run (run_load rfl Try.underlying3 rfl (by kernel_rfl : _ = Value.pointer (some ⟨b7, 0, none⟩)) (HS9.cell 0)) ?_)
  refine seqL1 (by kernel_rfl) ?_
  refine seqK rfl (does_run (run_load rfl Try.underlying3 rfl (by kernel_rfl : _ = Value.pointer (some ⟨b7, 1, none⟩)) (HS9.cell 1)) ?_)
  refine seqS3 (a' := ⟨#[.agg #[iV c1.W, iV c1.H, .slice A2 c1.At.length c3], .pointer (some ⟨b7, 0, none⟩), iV 0, uV, uV, uV, .pointer (some ⟨b7, 0, none⟩), iV c1.W, .pointer (some ⟨b7, 1, none⟩), iV c1.H, iV (mn c1.W c1.H), .bool (decide ((mn c1.W c1.H) < 1)), .bool (decide ((mn c1.W c1.H) < 1)), uV, uV, uV, uV, uV, uV, uV, uV, uV, uV, uV, uV, uV, uV, uV, uV, uV, uV, uV, uV, uV, uV, uV, uV, uV, uV, uV, uV, uV, uV, uV, uV, uV, uV, uV, uV, uV, uV, uV], []⟩) (by kernel_rfl) ?_
  have hq_ := ite_some h; clear h; rcases hq_ with ⟨c15, h⟩ | ⟨c15, h⟩
  · have c15 : (mn c1.W c1.H) < 1 := c15
    refine seqRwI 11 (x := (decide ((mn c1.W c1.H) < 1))) (v := true) (by kernel_rfl) (decide_eq_true c15) ?_
    refine seqRwI 12 (x := (decide ((mn c1.W c1.H) < 1))) (v := true) (by kernel_rfl) (decide_eq_true c15) ?_
    refine seqS18 (a' := ⟨#[.agg #[iV c1.W, iV c1.H, .slice A2 c1.At.length c3], .pointer (some ⟨b7, 0, none⟩), iV 0, uV, uV, uV, .pointer (some ⟨b7, 0, none⟩), iV c1.W, .pointer (some ⟨b7, 1, none⟩), iV c1.H, iV (mn c1.W c1.H), .bool true, .bool true, uV, uV, uV, uV, uV, uV, .bool true, .bool true, uV, uV, uV, uV, uV, uV, uV, uV, uV, .bool true, uV, uV, uV, uV, uV, uV, uV, uV, uV, uV, uV, uV, uV, uV, uV, uV, uV, uV, uV, uV, uV], []⟩) (by kernel_rfl) ?_
    refine wpList_nil ?_
    refine hK14 _ _ ?_
    refine condT (by kernel_rfl) ?_
    refine wp_seq_k (fun K16 hK17 => ?_)
    refine wp_region_lit ?_
    refine seqS1 (a' := ⟨#[.agg #[iV c1.W, iV c1.H, .slice A2 c1.At.length c3], .pointer (some ⟨b7, 0, none⟩), iV 3, uV, uV, uV, .pointer (some ⟨b7, 0, none⟩), iV c1.W, .pointer (some ⟨b7, 1, none⟩), iV c1.H, iV (mn c1.W c1.H), .bool true, .bool true, uV, uV, uV, uV, uV, uV, .bool true, .bool true, uV, uV, uV, uV, uV, uV, uV, uV, uV, .bool true, uV, uV, uV, uV, uV, uV, uV, uV, uV, uV, uV, uV, uV, uV, uV, uV, uV, uV, uV, uV, uV], []⟩) (by kernel_rfl) ?_
    refine wpList_nil ?_
    refine hK17 _ _ ?_
    refine wp_ret ?_
    refine hret _ _ ?_
    refine ends_still (v := Value.int .i64 3) (by kernel_rfl) (by kernel_rfl) ?_
    have HS114 := HS9.drop
    injection h with h
    subst h
    exact ⟨f, rfl, FM.le.refl _, HS114⟩
  · have c15 : ¬ ((mn c1.W c1.H) < 1) := c15
    refine seqRwI 11 (x := (decide ((mn c1.W c1.H) < 1))) (v := false) (by kernel_rfl) (decide_eq_false c15) ?_
    refine seqRwI 12 (x := (decide ((mn c1.W c1.H) < 1))) (v := false) (by kernel_rfl) (decide_eq_false c15) ?_
    refine seqL1 (by kernel_rfl) ?_
    refine seqG (by kernel_rfl) (does_run (run_load rfl Try.underlying3 rfl (by kernel_rfl : _ = Value.pointer (some ⟨b7, 0, none⟩)) (HS9.cell 0)) ?_)
    refine seqL1 (by kernel_rfl) ?_
    refine seqG (by kernel_rfl) (does_run (run_load rfl Try.underlying3 rfl (by kernel_rfl : _ = Value.pointer (some ⟨b7, 1, none⟩)) (HS9.cell 1)) ?_)
    refine seqS4 (a' := ⟨#[.agg #[iV c1.W, iV c1.H, .slice A2 c1.At.length c3], .pointer (some ⟨b7, 0, none⟩), iV 0, uV, uV, uV, .pointer (some ⟨b7, 0, none⟩), iV c1.W, .pointer (some ⟨b7, 1, none⟩), iV c1.H, iV (mn c1.W c1.H), .bool false, .bool false, .pointer (some ⟨b7, 0, none⟩), iV c1.W, .pointer (some ⟨b7, 1, none⟩), iV c1.H, iV (mx c1.W c1.H), .bool (decide ((mx c1.W c1.H) > 32)), .bool (decide ((mx c1.W c1.H) > 32)), .bool (decide ((mx c1.W c1.H) > 32)), uV, uV, uV, uV, uV, uV, uV, uV, uV, uV, uV, uV, uV, uV, uV, uV, uV, uV, uV, uV, uV, uV, uV, uV, uV, uV, uV, uV, uV, uV, uV], []⟩) (by kernel_rfl) ?_
    have hq_ := ite_some h; clear h; rcases hq_ with ⟨c18, h⟩ | ⟨c18, h⟩
    · have c18 : (mx c1.W c1.H) > 32 := c18
      refine seqRwI 18 (x := (decide ((mx c1.W c1.H) > 32))) (v := true) (by kernel_rfl) (decide_eq_true c18) ?_
      refine seqRwI 19 (x := (decide ((mx c1.W c1.H) > 32))) (v := true) (by kernel_rfl) (decide_eq_true c18) ?_
      refine seqRwI 20 (x := (decide ((mx c1.W c1.H) > 32))) (v := true) (by kernel_rfl) (decide_eq_true c18) ?_
      refine seqS10 (a' := ⟨#[.agg #[iV c1.W, iV c1.H, .slice A2 c1.At.length c3], .pointer (some ⟨b7, 0, none⟩), iV 0, uV, uV, uV, .pointer (some ⟨b7, 0, none⟩), iV c1.W, .pointer (some ⟨b7, 1, none⟩), iV c1.H, iV (mn c1.W c1.H), .bool false, .bool false, .pointer (some ⟨b7, 0, none⟩), iV c1.W, .pointer (some ⟨b7, 1, none⟩), iV c1.H, iV (mx c1.W c1.H), .bool true, .bool true, .bool true, uV, uV, uV, uV, uV, uV, uV, uV, uV, .bool true, uV, uV, uV, uV, uV, uV, uV, uV, uV, uV, uV, uV, uV, uV, uV, uV, uV, uV, uV, uV, uV], []⟩) (by kernel_rfl) ?_
      refine wpList_nil ?_
      refine hK14 _ _ ?_
      refine condT (by kernel_rfl) ?_
      refine wp_seq_k (fun K19 hK20 => ?_)
      refine wp_region_lit ?_
      refine seqS1 (a' := ⟨#[.agg #[iV c1.W, iV c1.H, .slice A2 c1.At.length c3], .pointer (some ⟨b7, 0, none⟩), iV 3, uV, uV, uV, .pointer (some ⟨b7, 0, none⟩), iV c1.W, .pointer (some ⟨b7, 1, none⟩), iV c1.H, iV (mn c1.W c1.H), .bool false, .bool false, .pointer (some ⟨b7, 0, none⟩), iV c1.W, .pointer (some ⟨b7, 1, none⟩), iV c1.H, iV (mx c1.W c1.H), .bool true, .bool true, .bool true, uV, uV, uV, uV, uV, uV, uV, uV, uV, .bool true, uV, uV, uV, uV, uV, uV, uV, uV, uV, uV, uV, uV, uV, uV, uV, uV, uV, uV, uV, uV, uV], []⟩) (by kernel_rfl) ?_
      refine wpList_nil ?_
      refine hK20 _ _ ?_
      refine wp_ret ?_
      refine hret _ _ ?_
      refine ends_still (v := Value.int .i64 3) (by kernel_rfl) (by kernel_rfl) ?_
      have HS115 := HS9.drop
      injection h with h
      subst h
      exact ⟨f, rfl, FM.le.refl _, HS115⟩
    · have c18 : ¬ ((mx c1.W c1.H) > 32) := c18
      refine seqRwI 18 (x := (decide ((mx c1.W c1.H) > 32))) (v := false) (by kernel_rfl) (decide_eq_false c18) ?_
      refine seqRwI 19 (x := (decide ((mx c1.W c1.H) > 32))) (v := false) (by kernel_rfl) (decide_eq_false c18) ?_
      refine seqRwI 20 (x := (decide ((mx c1.W c1.H) > 32))) (v := false) (by kernel_rfl) (decide_eq_false c18) ?_
      refine seqL1 (by kernel_rfl) ?_
      refine seqG (by kernel_rfl) (does_run (run_load rfl Try.underlying32 rfl (by kernel_rfl : _ = Value.pointer (some ⟨b7, 2, none⟩)) (HS9.cell 2)) ?_)
      refine seqL2 (by kernel_rfl) ?_
      refine seqG (by kernel_rfl) (does_run (run_load rfl Try.underlying3 rfl (by kernel_rfl : _ = Value.pointer (some ⟨b7, 0, none⟩)) (HS9.cell 0)) ?_)
      refine seqL1 (by kernel_rfl) ?_
      refine seqG (by kernel_rfl) (does_run (run_load rfl Try.underlying3 rfl (by kernel_rfl : _ = Value.pointer (some ⟨b7, 1, none⟩)) (HS9.cell 1)) ?_)
      refine seqS3 (a' := ⟨#[.agg #[iV c1.W, iV c1.H, .slice A2 c1.At.length c3], .pointer (some ⟨b7, 0, none⟩), iV 0, uV, uV, uV, .pointer (some ⟨b7, 0, none⟩), iV c1.W, .pointer (some ⟨b7, 1, none⟩), iV c1.H, iV (mn c1.W c1.H), .bool false, .bool false, .pointer (some ⟨b7, 0, none⟩), iV c1.W, .pointer (some ⟨b7, 1, none⟩), iV c1.H, iV (mx c1.W c1.H), .bool false, .bool false, .bool false, .pointer (some ⟨b7, 2, none⟩), .slice A2 c1.At.length c3, iV (c1.At.length : Int), .pointer (some ⟨b7, 0, none⟩), iV c1.W, .pointer (some ⟨b7, 1, none⟩), iV c1.H, iV (w64 (c1.W * c1.H)), .bool ((c1.At.length : Int) != (w64 (c1.W * c1.H))), .bool ((c1.At.length : Int) != (w64 (c1.W * c1.H))), uV, uV, uV, uV, uV, uV, uV, uV, uV, uV, uV, uV, uV, uV, uV, uV, uV, uV, uV, uV, uV], []⟩) (by kernel_rfl) ?_
      refine wpList_nil ?_
      refine hK14 _ _ ?_
      have hq_ := ite_some h; clear h; rcases hq_ with ⟨c22, h⟩ | ⟨c22, h⟩
      · have c22 : (c1.At.length : Int) ≠ (w64 (c1.W * c1.H)) := c22
        refine wpRwI 29 (x := ((c1.At.length : Int) != (w64 (c1.W * c1.H)))) (v := true) (by kernel_rfl) (bne_iff_ne.mpr c22) ?_
        refine wpRwI 30 (x := ((c1.At.length : Int) != (w64 (c1.W * c1.H)))) (v := true) (by kernel_rfl) (bne_iff_ne.mpr c22) ?_
        refine condT (by kernel_rfl) ?_
        refine wp_seq_k (fun K23 hK24 => ?_)
        refine wp_region_lit ?_
        refine seqS1 (a' := ⟨#[.agg #[iV c1.W, iV c1.H, .slice A2 c1.At.length c3], .pointer (some ⟨b7, 0, none⟩), iV 3, uV, uV, uV, .pointer (some ⟨b7, 0, none⟩), iV c1.W, .pointer (some ⟨b7, 1, none⟩), iV c1.H, iV (mn c1.W c1.H), .bool false, .bool false, .pointer (some ⟨b7, 0, none⟩), iV c1.W, .pointer (some ⟨b7, 1, none⟩), iV c1.H, iV (mx c1.W c1.H), .bool false, .bool false, .bool false, .pointer (some ⟨b7, 2, none⟩), .slice A2 c1.At.length c3, iV (c1.At.length : Int), .pointer (some ⟨b7, 0, none⟩), iV c1.W, .pointer (some ⟨b7, 1, none⟩), iV c1.H, iV (w64 (c1.W * c1.H)), .bool true, .bool true, uV, uV, uV, uV, uV, uV, uV, uV, uV, uV, uV, uV, uV, uV, uV, uV, uV, uV, uV, uV, uV], []⟩) (by kernel_rfl) ?_
        refine wpList_nil ?_
        refine hK24 _ _ ?_
        refine wp_ret ?_
        refine hret _ _ ?_
        refine ends_still (v := Value.int .i64 3) (by kernel_rfl) (by kernel_rfl) ?_
        have HS116 := HS9.drop
        injection h with h
        subst h
        exact ⟨f, rfl, FM.le.refl _, HS116⟩
      · have c22 : ¬ ((c1.At.length : Int) ≠ (w64 (c1.W * c1.H))) := c22
        refine wpRwI 29 (x := ((c1.At.length : Int) != (w64 (c1.W * c1.H)))) (v := false) (by kernel_rfl) (bne_eq_false_iff_eq.mpr (Decidable.of_not_not c22)) ?_
        refine wpRwI 30 (x := ((c1.At.length : Int) != (w64 (c1.W * c1.H)))) (v := false) (by kernel_rfl) (bne_eq_false_iff_eq.mpr (Decidable.of_not_not c22)) ?_
        refine condF (by kernel_rfl) ?_
        refine wp_skip ?_
        refine hK12 _ _ ?_
        refine wp_seq_k (fun K25 hK26 => ?_)
        refine wp_seq_k (fun K27 hK28 => ?_)
        refine wp_region_lit ?_
        refine seqL1 (by kernel_rfl) ?_
        refine seqK rfl (does_run (run_load rfl Try.underlying32 rfl (by kernel_rfl : _ = Value.pointer (some ⟨b7, 2, none⟩)) (HS9.cell 2)) ?_)
        refine seqS2 (a' := ⟨#[.agg #[iV c1.W, iV c1.H, .slice A2 c1.At.length c3], .pointer (some ⟨b7, 0, none⟩), iV 0, uV, uV, uV, .pointer (some ⟨b7, 0, none⟩), iV c1.W, .pointer (some ⟨b7, 1, none⟩), iV c1.H, iV (mn c1.W c1.H), .bool false, .bool false, .pointer (some ⟨b7, 0, none⟩), iV c1.W, .pointer (some ⟨b7, 1, none⟩), iV c1.H, iV (mx c1.W c1.H), .bool false, .bool false, .bool false, .pointer (some ⟨b7, 2, none⟩), .slice A2 c1.At.length c3, iV (c1.At.length : Int), .pointer (some ⟨b7, 0, none⟩), iV c1.W, .pointer (some ⟨b7, 1, none⟩), iV c1.H, iV (w64 (c1.W * c1.H)), .bool false, .bool false, .pointer (some ⟨b7, 2, none⟩), .slice A2 c1.At.length c3, iV (c1.At.length : Int), iV 0, uV, uV, uV, uV, uV, uV, uV, uV, uV, uV, uV, uV, uV, uV, uV, uV, uV], []⟩) (by kernel_rfl) ?_
        refine wpList_nil ?_
        refine hK28 _ _ ?_
        refine blockK (fun B29 hx30 hn31 hr32 ho33 hp34 => ?_)
        have hq_ := bind_some h; clear h; obtain ⟨o35, hv105, h⟩ := hq_
        have JR107 : ∀ z_, some (Sum.inl z_) = some o35 → some z_ = some r1 := by
          intro z_ e_; injection e_ with e_; subst e_; exact h
        have J106 : ∀ (f100 : FM) (j104 : Nat → Value) (W102 : World) (a_ : Act), FM.le f f100 → some (Sum.inr ()) = some o35 → St t W102 f100 ([(b7, .cells #[.int .i64 c1.W, .int .i64 c1.H, .slice A2 c1.At.length c3] 34 (0, 0))] :: H) → a_ = ⟨#[.agg #[iV c1.W, iV c1.H, .slice A2 c1.At.length c3], .pointer (some ⟨b7, 0, none⟩), (j104 0), uV, (j104 1), (j104 2), .pointer (some ⟨b7, 0, none⟩), iV c1.W, .pointer (some ⟨b7, 1, none⟩), iV c1.H, iV (mn c1.W c1.H), .bool false, .bool false, .pointer (some ⟨b7, 0, none⟩), iV c1.W, .pointer (some ⟨b7, 1, none⟩), iV c1.H, iV (mx c1.W c1.H), .bool false, .bool false, .bool false, .pointer (some ⟨b7, 2, none⟩), .slice A2 c1.At.length c3, iV (c1.At.length : Int), .pointer (some ⟨b7, 0, none⟩), iV c1.W, .pointer (some ⟨b7, 1, none⟩), iV c1.H, iV (w64 (c1.W * c1.H)), .bool false, .bool false, .pointer (some ⟨b7, 2, none⟩), .slice A2 c1.At.length c3, iV (c1.At.length : Int), (j104 3), (j104 4), (j104 5), (j104 6), (j104 7), (j104 8), (j104 9), (j104 10), (j104 11), (j104 12), (j104 13), (j104 14), (j104 15), (j104 16), (j104 17), (j104 18), (j104 19), (j104 20)], []⟩ → K25 a_ W102 := by
          intro f100 j104 W102 a_ L101 hj108 HS103  hfr_; subst hfr_
          injection hj108 with hj108; subst hj108; try dsimp only at h
          simp only [Sum.elim_inr] at h
          refine hK26 _ _ ?_
          refine wp_seq_k (fun K112 hK113 => ?_)
          refine wp_region_lit ?_
          refine seqS1 (a' := ⟨#[.agg #[iV c1.W, iV c1.H, .slice A2 c1.At.length c3], .pointer (some ⟨b7, 0, none⟩), iV 0, uV, (j104 1), (j104 2), .pointer (some ⟨b7, 0, none⟩), iV c1.W, .pointer (some ⟨b7, 1, none⟩), iV c1.H, iV (mn c1.W c1.H), .bool false, .bool false, .pointer (some ⟨b7, 0, none⟩), iV c1.W, .pointer (some ⟨b7, 1, none⟩), iV c1.H, iV (mx c1.W c1.H), .bool false, .bool false, .bool false, .pointer (some ⟨b7, 2, none⟩), .slice A2 c1.At.length c3, iV (c1.At.length : Int), .pointer (some ⟨b7, 0, none⟩), iV c1.W, .pointer (some ⟨b7, 1, none⟩), iV c1.H, iV (w64 (c1.W * c1.H)), .bool false, .bool false, .pointer (some ⟨b7, 2, none⟩), .slice A2 c1.At.length c3, iV (c1.At.length : Int), (j104 3), (j104 4), (j104 5), (j104 6), (j104 7), (j104 8), (j104 9), (j104 10), (j104 11), (j104 12), (j104 13), (j104 14), (j104 15), (j104 16), (j104 17), (j104 18), (j104 19), (j104 20)], []⟩) (by kernel_rfl) ?_
          refine wpList_nil ?_
          refine hK113 _ _ ?_
          refine wp_ret ?_
          refine hret _ _ ?_
          refine ends_still (v := Value.int .i64 0) (by kernel_rfl) (by kernel_rfl) ?_
          have HS123 := HS103.drop
          injection h with h
          subst h
          exact ⟨f100, rfl, L101, HS123⟩
        clear h; have h := hv105; clear hv105
        refine loopK (fun n_ a_ w_ => ∃ (f39 : FM) (x44 : Int) (j43 : Nat → Value), FM.le f f39 ∧ St t w_ f39 ([(b7, .cells #[.int .i64 c1.W, .int .i64 c1.H, .slice A2 c1.At.length c3] 34 (0, 0))] :: H) ∧ clean_Check.l0 k c1 n_ x44 = some o35 ∧ a_ = ⟨#[.agg #[iV c1.W, iV c1.H, .slice A2 c1.At.length c3], .pointer (some ⟨b7, 0, none⟩), (j43 0), uV, (j43 1), (j43 2), .pointer (some ⟨b7, 0, none⟩), iV c1.W, .pointer (some ⟨b7, 1, none⟩), iV c1.H, iV (mn c1.W c1.H), .bool false, .bool false, .pointer (some ⟨b7, 0, none⟩), iV c1.W, .pointer (some ⟨b7, 1, none⟩), iV c1.H, iV (mx c1.W c1.H), .bool false, .bool false, .bool false, .pointer (some ⟨b7, 2, none⟩), .slice A2 c1.At.length c3, iV (c1.At.length : Int), .pointer (some ⟨b7, 0, none⟩), iV c1.W, .pointer (some ⟨b7, 1, none⟩), iV c1.H, iV (w64 (c1.W * c1.H)), .bool false, .bool false, .pointer (some ⟨b7, 2, none⟩), .slice A2 c1.At.length c3, iV (c1.At.length : Int), iV x44, (j43 3), (j43 4), (j43 5), (j43 6), (j43 7), (j43 8), (j43 9), (j43 10), (j43 11), (j43 12), (j43 13), (j43 14), (j43 15), (j43 16), (j43 17), (j43 18), (j43 19)], []⟩) k ⟨f, 0, (fun i_ => [Value.int .i64 0, undef, undef, undef, undef, undef, undef, undef, undef, undef, undef, undef, undef, undef, undef, undef, undef, undef, undef, undef].getD i_ undef), (FM.le.refl _), HS9, h, (by kernel_rfl)⟩ ?_
        clear h
        rintro n38 _ W41 ⟨f39, x44, j43, L40, HS42, h, rfl⟩ K36 hK37
        obtain _ | n38 := n38
        · exact nomatch h
        simp only [clean_Check.l0] at h
        refine wp_seq_k (fun K45 hK46 => ?_)
        refine wp_region_lit ?_
        refine seqS1 (a' := ⟨#[.agg #[iV c1.W, iV c1.H, .slice A2 c1.At.length c3], .pointer (some ⟨b7, 0, none⟩), (j43 0), uV, (j43 1), (j43 2), .pointer (some ⟨b7, 0, none⟩), iV c1.W, .pointer (some ⟨b7, 1, none⟩), iV c1.H, iV (mn c1.W c1.H), .bool false, .bool false, .pointer (some ⟨b7, 0, none⟩), iV c1.W, .pointer (some ⟨b7, 1, none⟩), iV c1.H, iV (mx c1.W c1.H), .bool false, .bool false, .bool false, .pointer (some ⟨b7, 2, none⟩), .slice A2 c1.At.length c3, iV (c1.At.length : Int), .pointer (some ⟨b7, 0, none⟩), iV c1.W, .pointer (some ⟨b7, 1, none⟩), iV c1.H, iV (w64 (c1.W * c1.H)), .bool false, .bool false, .pointer (some ⟨b7, 2, none⟩), .slice A2 c1.At.length c3, iV (c1.At.length : Int), iV x44, .bool (decide (x44 < (c1.At.length : Int))), (j43 4), (j43 5), (j43 6), (j43 7), (j43 8), (j43 9), (j43 10), (j43 11), (j43 12), (j43 13), (j43 14), (j43 15), (j43 16), (j43 17), (j43 18), (j43 19)], []⟩) (by kernel_rfl) ?_
        refine wpList_nil ?_
        refine hK46 _ _ ?_
        refine wp_seq_k (fun K47 hK48 => ?_)
        have hq_ := ite_some h; clear h; rcases hq_ with ⟨c50, h⟩ | ⟨c50, h⟩
        · have c50 : x44 < (c1.At.length : Int) := c50
          refine wpRwI 35 (x := (decide (x44 < (c1.At.length : Int)))) (v := true) (by kernel_rfl) (decide_eq_true c50) ?_
          refine condT (by kernel_rfl) ?_
          refine wp_skip ?_
          refine hK48 _ _ ?_
          refine wp_seq_k (fun K51 hK52 => ?_)
          refine blockK (fun B53 hx54 hn55 hr56 ho57 hp58 => ?_)
          refine wp_seq_k (fun K60 hK61 => ?_)
          refine wp_region_lit ?_
          have hq_ := guard_some h; clear h; obtain ⟨c62, h⟩ := hq_
          have c62 : 0 ≤ x44 := c62
          obtain ⟨b66, of67, cs63, hA68, hr64, hc65⟩ := (HR4.mono L40).at (i := x44) c62 c50
          obtain rfl := hr64
          refine seqK rfl (does_run (run_indexE hA68 (sz := 3) rfl Try.underlying32 (by kernel_rfl) (by kernel_rfl : _ = Value.slice A2 c1.At.length c3) (by kernel_rfl : _ = Value.int .i64 x44) c62 c50 W41) ?_)
          refine seqK rfl (does_run (run_loadN (n := 3) rfl Try.underlying44 rfl (by kernel_rfl) (by kernel_rfl : _ = Value.pointer (some ⟨b66, of67 + (x44 : Int).toNat * 3, none⟩)) (cs := [.int .i64 ((rd c1.At x44).Lo), .int .i64 ((rd c1.At x44).Hi), .bool ((rd c1.At x44).Unknown)]) rfl (fun j_ hj_ => ((hc65 (FM.le.refl _) HS42) j_ hj_))) ?_)
          refine seqK rfl (does_alloc (z := Value.agg #[.int .i64 0, .int .i64 0, .bool false]) (cs := #[.int .i64 0, .int .i64 0, .bool false]) rfl (by kernel_rfl) rfl HS42 ?_)
          intro b69 W70 HS71
          refine seqK rfl (does_store (n := 3) (vs := [.int .i64 ((rd c1.At x44).Lo), .int .i64 ((rd c1.At x44).Hi), .bool ((rd c1.At x44).Unknown)]) (cs' := #[.int .i64 ((rd c1.At x44).Lo), .int .i64 ((rd c1.At x44).Hi), .bool ((rd c1.At x44).Unknown)]) rfl (by kernel_rfl) (by kernel_rfl : _ = Value.pointer (some ⟨b69, 0, none⟩)) (by kernel_rfl : _ = Value.agg #[.int .i64 ((rd c1.At x44).Lo), .int .i64 ((rd c1.At x44).Hi), .bool ((rd c1.At x44).Unknown)]) rfl rfl (by intro u_ hu_; simp only [List.mem_cons, List.not_mem_nil, or_false] at hu_; rcases hu_ with rfl | rfl | rfl <;> rfl) HS71 (Nat.le_of_ble_eq_true rfl) (by kernel_rfl) ?_)
          intro W73 HS74
          refine wpList_nil ?_
          refine hK61 _ _ ?_
          refine wp_seq_k (fun K75 hK76 => ?_)
          refine wp_seq_k (fun K77 hK78 => ?_)
          refine wp_region_lit ?_
          refine seqK rfl (does_run (run_loadN (n := 3) rfl Try.underlying44 rfl (by kernel_rfl) (by kernel_rfl : _ = Value.pointer (some ⟨b69, 0, none⟩)) (cs := [.int .i64 ((rd c1.At x44).Lo), .int .i64 ((rd c1.At x44).Hi), .bool ((rd c1.At x44).Unknown)]) rfl (HS74.cells 0 3 _ rfl)) ?_)
          have hq_ := bind_some h; clear h; obtain ⟨vt79, hc80, h⟩ := hq_
          refine seqK rfl (does_call (f := 71) (args := #[.agg #[.int .i64 ((rd c1.At x44).Lo), .int .i64 ((rd c1.At x44).Hi), .bool ((rd c1.At x44).Unknown)]]) (by kernel_rfl) (bound_Check_Quanta.calls k (rd c1.At x44) HS74 vt79 hc80) ?_)
          rintro _ W83 ⟨f81, rfl, L82, HS84⟩
          refine ⟨_, rfl, ?_⟩
          refine seqS1 (a' := ⟨#[.agg #[iV c1.W, iV c1.H, .slice A2 c1.At.length c3], .pointer (some ⟨b7, 0, none⟩), (j43 0), uV, .pointer (some ⟨b69, 0, none⟩), iV vt79, .pointer (some ⟨b7, 0, none⟩), iV c1.W, .pointer (some ⟨b7, 1, none⟩), iV c1.H, iV (mn c1.W c1.H), .bool false, .bool false, .pointer (some ⟨b7, 0, none⟩), iV c1.W, .pointer (some ⟨b7, 1, none⟩), iV c1.H, iV (mx c1.W c1.H), .bool false, .bool false, .bool false, .pointer (some ⟨b7, 2, none⟩), .slice A2 c1.At.length c3, iV (c1.At.length : Int), .pointer (some ⟨b7, 0, none⟩), iV c1.W, .pointer (some ⟨b7, 1, none⟩), iV c1.H, iV (w64 (c1.W * c1.H)), .bool false, .bool false, .pointer (some ⟨b7, 2, none⟩), .slice A2 c1.At.length c3, iV (c1.At.length : Int), iV x44, .bool true, .pointer (some ⟨b66, of67 + (x44 : Int).toNat * 3, none⟩), .agg #[iV ((rd c1.At x44).Lo), iV ((rd c1.At x44).Hi), .bool ((rd c1.At x44).Unknown)], .agg #[iV ((rd c1.At x44).Lo), iV ((rd c1.At x44).Hi), .bool ((rd c1.At x44).Unknown)], iV vt79, (j43 8), (j43 9), (j43 10), (j43 11), (j43 12), (j43 13), (j43 14), (j43 15), (j43 16), (j43 17), (j43 18), (j43 19)], []⟩) (by kernel_rfl) ?_
          refine wpList_nil ?_
          refine hK78 _ _ ?_
          refine wp_seq_k (fun K85 hK86 => ?_)
          refine wp_region_lit ?_
          refine seqS2 (a' := ⟨#[.agg #[iV c1.W, iV c1.H, .slice A2 c1.At.length c3], .pointer (some ⟨b7, 0, none⟩), (j43 0), uV, .pointer (some ⟨b69, 0, none⟩), iV vt79, .pointer (some ⟨b7, 0, none⟩), iV c1.W, .pointer (some ⟨b7, 1, none⟩), iV c1.H, iV (mn c1.W c1.H), .bool false, .bool false, .pointer (some ⟨b7, 0, none⟩), iV c1.W, .pointer (some ⟨b7, 1, none⟩), iV c1.H, iV (mx c1.W c1.H), .bool false, .bool false, .bool false, .pointer (some ⟨b7, 2, none⟩), .slice A2 c1.At.length c3, iV (c1.At.length : Int), .pointer (some ⟨b7, 0, none⟩), iV c1.W, .pointer (some ⟨b7, 1, none⟩), iV c1.H, iV (w64 (c1.W * c1.H)), .bool false, .bool false, .pointer (some ⟨b7, 2, none⟩), .slice A2 c1.At.length c3, iV (c1.At.length : Int), iV x44, .bool true, .pointer (some ⟨b66, of67 + (x44 : Int).toNat * 3, none⟩), .agg #[iV ((rd c1.At x44).Lo), iV ((rd c1.At x44).Hi), .bool ((rd c1.At x44).Unknown)], .agg #[iV ((rd c1.At x44).Lo), iV ((rd c1.At x44).Hi), .bool ((rd c1.At x44).Unknown)], iV vt79, iV vt79, .bool (vt79 != 0), (j43 10), (j43 11), (j43 12), (j43 13), (j43 14), (j43 15), (j43 16), (j43 17), (j43 18), (j43 19)], []⟩) (by kernel_rfl) ?_
          refine wpList_nil ?_
          refine hK86 _ _ ?_
          have hq_ := ite_some h; clear h; rcases hq_ with ⟨c88, h⟩ | ⟨c88, h⟩
          · have c88 : vt79 ≠ 0 := c88
            refine wpRwI 41 (x := (vt79 != 0)) (v := true) (by kernel_rfl) (bne_iff_ne.mpr c88) ?_
            refine condT (by kernel_rfl) ?_
            refine wp_seq_k (fun K89 hK90 => ?_)
            refine wp_region_lit ?_
            refine seqS2 (a' := ⟨#[.agg #[iV c1.W, iV c1.H, .slice A2 c1.At.length c3], .pointer (some ⟨b7, 0, none⟩), iV vt79, uV, .pointer (some ⟨b69, 0, none⟩), iV vt79, .pointer (some ⟨b7, 0, none⟩), iV c1.W, .pointer (some ⟨b7, 1, none⟩), iV c1.H, iV (mn c1.W c1.H), .bool false, .bool false, .pointer (some ⟨b7, 0, none⟩), iV c1.W, .pointer (some ⟨b7, 1, none⟩), iV c1.H, iV (mx c1.W c1.H), .bool false, .bool false, .bool false, .pointer (some ⟨b7, 2, none⟩), .slice A2 c1.At.length c3, iV (c1.At.length : Int), .pointer (some ⟨b7, 0, none⟩), iV c1.W, .pointer (some ⟨b7, 1, none⟩), iV c1.H, iV (w64 (c1.W * c1.H)), .bool false, .bool false, .pointer (some ⟨b7, 2, none⟩), .slice A2 c1.At.length c3, iV (c1.At.length : Int), iV x44, .bool true, .pointer (some ⟨b66, of67 + (x44 : Int).toNat * 3, none⟩), .agg #[iV ((rd c1.At x44).Lo), iV ((rd c1.At x44).Hi), .bool ((rd c1.At x44).Unknown)], .agg #[iV ((rd c1.At x44).Lo), iV ((rd c1.At x44).Hi), .bool ((rd c1.At x44).Unknown)], iV vt79, iV vt79, .bool true, iV vt79, (j43 11), (j43 12), (j43 13), (j43 14), (j43 15), (j43 16), (j43 17), (j43 18), (j43 19)], []⟩) (by kernel_rfl) ?_
            refine wpList_nil ?_
            refine hK90 _ _ ?_
            refine wp_ret ?_
            refine hr56 _ _ ?_
            refine hr32 _ _ ?_
            refine hret _ _ ?_
            refine ends_still (v := Value.int .i64 vt79) (by kernel_rfl) (by kernel_rfl) ?_
            have HS117 := HS84.drop
            have HS118 := HS117.drop
            replace h := JR107 _ h
            injection h with h
            subst h
            exact ⟨f81, rfl, (L40.trans L82), HS118⟩
          · have c88 : ¬ (vt79 ≠ 0) := c88
            refine wpRwI 41 (x := (vt79 != 0)) (v := false) (by kernel_rfl) (bne_eq_false_iff_eq.mpr (Decidable.of_not_not c88)) ?_
            refine condF (by kernel_rfl) ?_
            refine wp_skip ?_
            refine hK76 _ _ ?_
            refine wp_seq_k (fun K91 hK92 => ?_)
            refine wp_region_lit ?_
            refine seqL1 (by kernel_rfl) ?_
            refine seqK rfl (does_run (run_load rfl Try.underlying42 rfl (by kernel_rfl : _ = Value.pointer (some ⟨b69, 0, none⟩)) (HS84.cell 0)) ?_)
            refine seqS2 (a' := ⟨#[.agg #[iV c1.W, iV c1.H, .slice A2 c1.At.length c3], .pointer (some ⟨b7, 0, none⟩), (j43 0), uV, .pointer (some ⟨b69, 0, none⟩), iV vt79, .pointer (some ⟨b7, 0, none⟩), iV c1.W, .pointer (some ⟨b7, 1, none⟩), iV c1.H, iV (mn c1.W c1.H), .bool false, .bool false, .pointer (some ⟨b7, 0, none⟩), iV c1.W, .pointer (some ⟨b7, 1, none⟩), iV c1.H, iV (mx c1.W c1.H), .bool false, .bool false, .bool false, .pointer (some ⟨b7, 2, none⟩), .slice A2 c1.At.length c3, iV (c1.At.length : Int), .pointer (some ⟨b7, 0, none⟩), iV c1.W, .pointer (some ⟨b7, 1, none⟩), iV c1.H, iV (w64 (c1.W * c1.H)), .bool false, .bool false, .pointer (some ⟨b7, 2, none⟩), .slice A2 c1.At.length c3, iV (c1.At.length : Int), iV x44, .bool true, .pointer (some ⟨b66, of67 + (x44 : Int).toNat * 3, none⟩), .agg #[iV ((rd c1.At x44).Lo), iV ((rd c1.At x44).Hi), .bool ((rd c1.At x44).Unknown)], .agg #[iV ((rd c1.At x44).Lo), iV ((rd c1.At x44).Hi), .bool ((rd c1.At x44).Unknown)], iV vt79, iV vt79, .bool false, (j43 10), .pointer (some ⟨b69, 0, none⟩), iV ((rd c1.At x44).Lo), .bool (decide (((rd c1.At x44).Lo) < (-1099511627776))), .bool (decide (((rd c1.At x44).Lo) < (-1099511627776))), (j43 15), (j43 16), (j43 17), (j43 18), (j43 19)], []⟩) (by kernel_rfl) ?_
            have hq_ := ite_some h; clear h; rcases hq_ with ⟨c93, h⟩ | ⟨c93, h⟩
            · have c93 : ((rd c1.At x44).Lo) < (-1099511627776) := c93
              refine seqRwI 45 (x := (decide (((rd c1.At x44).Lo) < (-1099511627776)))) (v := true) (by kernel_rfl) (decide_eq_true c93) ?_
              refine seqRwI 46 (x := (decide (((rd c1.At x44).Lo) < (-1099511627776)))) (v := true) (by kernel_rfl) (decide_eq_true c93) ?_
              refine seqS4 (a' := ⟨#[.agg #[iV c1.W, iV c1.H, .slice A2 c1.At.length c3], .pointer (some ⟨b7, 0, none⟩), (j43 0), uV, .pointer (some ⟨b69, 0, none⟩), iV vt79, .pointer (some ⟨b7, 0, none⟩), iV c1.W, .pointer (some ⟨b7, 1, none⟩), iV c1.H, iV (mn c1.W c1.H), .bool false, .bool false, .pointer (some ⟨b7, 0, none⟩), iV c1.W, .pointer (some ⟨b7, 1, none⟩), iV c1.H, iV (mx c1.W c1.H), .bool false, .bool false, .bool false, .pointer (some ⟨b7, 2, none⟩), .slice A2 c1.At.length c3, iV (c1.At.length : Int), .pointer (some ⟨b7, 0, none⟩), iV c1.W, .pointer (some ⟨b7, 1, none⟩), iV c1.H, iV (w64 (c1.W * c1.H)), .bool false, .bool false, .pointer (some ⟨b7, 2, none⟩), .slice A2 c1.At.length c3, iV (c1.At.length : Int), iV x44, .bool true, .pointer (some ⟨b66, of67 + (x44 : Int).toNat * 3, none⟩), .agg #[iV ((rd c1.At x44).Lo), iV ((rd c1.At x44).Hi), .bool ((rd c1.At x44).Unknown)], .agg #[iV ((rd c1.At x44).Lo), iV ((rd c1.At x44).Hi), .bool ((rd c1.At x44).Unknown)], iV vt79, iV vt79, .bool false, (j43 10), .pointer (some ⟨b69, 0, none⟩), iV ((rd c1.At x44).Lo), .bool true, .bool true, uV, uV, uV, .bool true, (j43 19)], []⟩) (by kernel_rfl) ?_
              refine wpList_nil ?_
              refine hK92 _ _ ?_
              refine condT (by kernel_rfl) ?_
              refine wp_seq_k (fun K94 hK95 => ?_)
              refine wp_region_lit ?_
              refine seqS1 (a' := ⟨#[.agg #[iV c1.W, iV c1.H, .slice A2 c1.At.length c3], .pointer (some ⟨b7, 0, none⟩), iV 4, uV, .pointer (some ⟨b69, 0, none⟩), iV vt79, .pointer (some ⟨b7, 0, none⟩), iV c1.W, .pointer (some ⟨b7, 1, none⟩), iV c1.H, iV (mn c1.W c1.H), .bool false, .bool false, .pointer (some ⟨b7, 0, none⟩), iV c1.W, .pointer (some ⟨b7, 1, none⟩), iV c1.H, iV (mx c1.W c1.H), .bool false, .bool false, .bool false, .pointer (some ⟨b7, 2, none⟩), .slice A2 c1.At.length c3, iV (c1.At.length : Int), .pointer (some ⟨b7, 0, none⟩), iV c1.W, .pointer (some ⟨b7, 1, none⟩), iV c1.H, iV (w64 (c1.W * c1.H)), .bool false, .bool false, .pointer (some ⟨b7, 2, none⟩), .slice A2 c1.At.length c3, iV (c1.At.length : Int), iV x44, .bool true, .pointer (some ⟨b66, of67 + (x44 : Int).toNat * 3, none⟩), .agg #[iV ((rd c1.At x44).Lo), iV ((rd c1.At x44).Hi), .bool ((rd c1.At x44).Unknown)], .agg #[iV ((rd c1.At x44).Lo), iV ((rd c1.At x44).Hi), .bool ((rd c1.At x44).Unknown)], iV vt79, iV vt79, .bool false, (j43 10), .pointer (some ⟨b69, 0, none⟩), iV ((rd c1.At x44).Lo), .bool true, .bool true, uV, uV, uV, .bool true, (j43 19)], []⟩) (by kernel_rfl) ?_
              refine wpList_nil ?_
              refine hK95 _ _ ?_
              refine wp_ret ?_
              refine hr56 _ _ ?_
              refine hr32 _ _ ?_
              refine hret _ _ ?_
              refine ends_still (v := Value.int .i64 4) (by kernel_rfl) (by kernel_rfl) ?_
              have HS119 := HS84.drop
              have HS120 := HS119.drop
              replace h := JR107 _ h
              injection h with h
              subst h
              exact ⟨f81, rfl, (L40.trans L82), HS120⟩
            · have c93 : ¬ (((rd c1.At x44).Lo) < (-1099511627776)) := c93
              refine seqRwI 45 (x := (decide (((rd c1.At x44).Lo) < (-1099511627776)))) (v := false) (by kernel_rfl) (decide_eq_false c93) ?_
              refine seqRwI 46 (x := (decide (((rd c1.At x44).Lo) < (-1099511627776)))) (v := false) (by kernel_rfl) (decide_eq_false c93) ?_
              refine seqL1 (by kernel_rfl) ?_
              refine seqG (by kernel_rfl) (does_run (run_load rfl Try.underlying42 rfl (by kernel_rfl : _ = Value.pointer (some ⟨b69, 1, none⟩)) (HS84.cell 1)) ?_)
              refine seqS2 (a' := ⟨#[.agg #[iV c1.W, iV c1.H, .slice A2 c1.At.length c3], .pointer (some ⟨b7, 0, none⟩), (j43 0), uV, .pointer (some ⟨b69, 0, none⟩), iV vt79, .pointer (some ⟨b7, 0, none⟩), iV c1.W, .pointer (some ⟨b7, 1, none⟩), iV c1.H, iV (mn c1.W c1.H), .bool false, .bool false, .pointer (some ⟨b7, 0, none⟩), iV c1.W, .pointer (some ⟨b7, 1, none⟩), iV c1.H, iV (mx c1.W c1.H), .bool false, .bool false, .bool false, .pointer (some ⟨b7, 2, none⟩), .slice A2 c1.At.length c3, iV (c1.At.length : Int), .pointer (some ⟨b7, 0, none⟩), iV c1.W, .pointer (some ⟨b7, 1, none⟩), iV c1.H, iV (w64 (c1.W * c1.H)), .bool false, .bool false, .pointer (some ⟨b7, 2, none⟩), .slice A2 c1.At.length c3, iV (c1.At.length : Int), iV x44, .bool true, .pointer (some ⟨b66, of67 + (x44 : Int).toNat * 3, none⟩), .agg #[iV ((rd c1.At x44).Lo), iV ((rd c1.At x44).Hi), .bool ((rd c1.At x44).Unknown)], .agg #[iV ((rd c1.At x44).Lo), iV ((rd c1.At x44).Hi), .bool ((rd c1.At x44).Unknown)], iV vt79, iV vt79, .bool false, (j43 10), .pointer (some ⟨b69, 0, none⟩), iV ((rd c1.At x44).Lo), .bool false, .bool false, .pointer (some ⟨b69, 1, none⟩), iV ((rd c1.At x44).Hi), .bool (decide (((rd c1.At x44).Hi) > 1099511627776)), .bool (decide (((rd c1.At x44).Hi) > 1099511627776)), (j43 19)], []⟩) (by kernel_rfl) ?_
              refine wpList_nil ?_
              refine hK92 _ _ ?_
              have hq_ := ite_some h; clear h; rcases hq_ with ⟨c97, h⟩ | ⟨c97, h⟩
              · have c97 : ((rd c1.At x44).Hi) > 1099511627776 := c97
                refine wpRwI 49 (x := (decide (((rd c1.At x44).Hi) > 1099511627776))) (v := true) (by kernel_rfl) (decide_eq_true c97) ?_
                refine wpRwI 50 (x := (decide (((rd c1.At x44).Hi) > 1099511627776))) (v := true) (by kernel_rfl) (decide_eq_true c97) ?_
                refine condT (by kernel_rfl) ?_
                refine wp_seq_k (fun K98 hK99 => ?_)
                refine wp_region_lit ?_
                refine seqS1 (a' := ⟨#[.agg #[iV c1.W, iV c1.H, .slice A2 c1.At.length c3], .pointer (some ⟨b7, 0, none⟩), iV 4, uV, .pointer (some ⟨b69, 0, none⟩), iV vt79, .pointer (some ⟨b7, 0, none⟩), iV c1.W, .pointer (some ⟨b7, 1, none⟩), iV c1.H, iV (mn c1.W c1.H), .bool false, .bool false, .pointer (some ⟨b7, 0, none⟩), iV c1.W, .pointer (some ⟨b7, 1, none⟩), iV c1.H, iV (mx c1.W c1.H), .bool false, .bool false, .bool false, .pointer (some ⟨b7, 2, none⟩), .slice A2 c1.At.length c3, iV (c1.At.length : Int), .pointer (some ⟨b7, 0, none⟩), iV c1.W, .pointer (some ⟨b7, 1, none⟩), iV c1.H, iV (w64 (c1.W * c1.H)), .bool false, .bool false, .pointer (some ⟨b7, 2, none⟩), .slice A2 c1.At.length c3, iV (c1.At.length : Int), iV x44, .bool true, .pointer (some ⟨b66, of67 + (x44 : Int).toNat * 3, none⟩), .agg #[iV ((rd c1.At x44).Lo), iV ((rd c1.At x44).Hi), .bool ((rd c1.At x44).Unknown)], .agg #[iV ((rd c1.At x44).Lo), iV ((rd c1.At x44).Hi), .bool ((rd c1.At x44).Unknown)], iV vt79, iV vt79, .bool false, (j43 10), .pointer (some ⟨b69, 0, none⟩), iV ((rd c1.At x44).Lo), .bool false, .bool false, .pointer (some ⟨b69, 1, none⟩), iV ((rd c1.At x44).Hi), .bool true, .bool true, (j43 19)], []⟩) (by kernel_rfl) ?_
                refine wpList_nil ?_
                refine hK99 _ _ ?_
                refine wp_ret ?_
                refine hr56 _ _ ?_
                refine hr32 _ _ ?_
                refine hret _ _ ?_
                refine ends_still (v := Value.int .i64 4) (by kernel_rfl) (by kernel_rfl) ?_
                have HS121 := HS84.drop
                have HS122 := HS121.drop
                replace h := JR107 _ h
                injection h with h
                subst h
                exact ⟨f81, rfl, (L40.trans L82), HS122⟩
              · have c97 : ¬ (((rd c1.At x44).Hi) > 1099511627776) := c97
                refine wpRwI 49 (x := (decide (((rd c1.At x44).Hi) > 1099511627776))) (v := false) (by kernel_rfl) (decide_eq_false c97) ?_
                refine wpRwI 50 (x := (decide (((rd c1.At x44).Hi) > 1099511627776))) (v := false) (by kernel_rfl) (decide_eq_false c97) ?_
                refine condF (by kernel_rfl) ?_
                refine wp_skip ?_
                refine hn55 _ _ ?_
                refine hK52 _ _ ?_
                refine wp_region_lit ?_
                refine seqS2 (a' := ⟨#[.agg #[iV c1.W, iV c1.H, .slice A2 c1.At.length c3], .pointer (some ⟨b7, 0, none⟩), (j43 0), uV, .pointer (some ⟨b69, 0, none⟩), iV vt79, .pointer (some ⟨b7, 0, none⟩), iV c1.W, .pointer (some ⟨b7, 1, none⟩), iV c1.H, iV (mn c1.W c1.H), .bool false, .bool false, .pointer (some ⟨b7, 0, none⟩), iV c1.W, .pointer (some ⟨b7, 1, none⟩), iV c1.H, iV (mx c1.W c1.H), .bool false, .bool false, .bool false, .pointer (some ⟨b7, 2, none⟩), .slice A2 c1.At.length c3, iV (c1.At.length : Int), .pointer (some ⟨b7, 0, none⟩), iV c1.W, .pointer (some ⟨b7, 1, none⟩), iV c1.H, iV (w64 (c1.W * c1.H)), .bool false, .bool false, .pointer (some ⟨b7, 2, none⟩), .slice A2 c1.At.length c3, iV (c1.At.length : Int), iV (w64 (x44 + 1)), .bool true, .pointer (some ⟨b66, of67 + (x44 : Int).toNat * 3, none⟩), .agg #[iV ((rd c1.At x44).Lo), iV ((rd c1.At x44).Hi), .bool ((rd c1.At x44).Unknown)], .agg #[iV ((rd c1.At x44).Lo), iV ((rd c1.At x44).Hi), .bool ((rd c1.At x44).Unknown)], iV vt79, iV vt79, .bool false, (j43 10), .pointer (some ⟨b69, 0, none⟩), iV ((rd c1.At x44).Lo), .bool false, .bool false, .pointer (some ⟨b69, 1, none⟩), iV ((rd c1.At x44).Hi), .bool false, .bool false, iV (w64 (x44 + 1))], []⟩) (by kernel_rfl) ?_
                refine wpList_nil ?_
                refine hK37 n38 _ _ (Nat.lt_succ_self _) ?_
                have HS109 := HS84.u1
                have HS110 := HS109.u1
                have HS111 := HS110.drop
                exact ⟨f81, (w64 (x44 + 1)), (fun i_ => [(j43 0), Value.pointer (some ⟨b69, 0, none⟩), Value.int .i64 vt79, Value.bool true, Value.pointer (some ⟨b66, of67 + (x44 : Int).toNat * 3, none⟩), Value.agg #[.int .i64 ((rd c1.At x44).Lo), .int .i64 ((rd c1.At x44).Hi), .bool ((rd c1.At x44).Unknown)], Value.agg #[.int .i64 ((rd c1.At x44).Lo), .int .i64 ((rd c1.At x44).Hi), .bool ((rd c1.At x44).Unknown)], Value.int .i64 vt79, Value.int .i64 vt79, Value.bool false, (j43 10), Value.pointer (some ⟨b69, 0, none⟩), Value.int .i64 ((rd c1.At x44).Lo), Value.bool false, Value.bool false, Value.pointer (some ⟨b69, 1, none⟩), Value.int .i64 ((rd c1.At x44).Hi), Value.bool false, Value.bool false, Value.int .i64 (w64 (x44 + 1))].getD i_ undef), (L40.trans L82), HS111, h, (by kernel_rfl)⟩
        · have c50 : ¬ (x44 < (c1.At.length : Int)) := c50
          refine wpRwI 35 (x := (decide (x44 < (c1.At.length : Int)))) (v := false) (by kernel_rfl) (decide_eq_false c50) ?_
          refine condF (by kernel_rfl) ?_
          refine wp_exit ?_
          refine hx30 _ _ ?_
          exact J106 f39 (fun i_ => [(j43 0), (j43 1), (j43 2), Value.int .i64 x44, Value.bool false, (j43 4), (j43 5), (j43 6), (j43 7), (j43 8), (j43 9), (j43 10), (j43 11), (j43 12), (j43 13), (j43 14), (j43 15), (j43 16), (j43 17), (j43 18), (j43 19)].getD i_ undef) W41 _ L40 h HS42 (by kernel_rfl)

set_option maxRecDepth 100000 in
set_option maxHeartbeats 4000000 in
theorem clean_valid.calls (k : Nat) (A2 : Option Addr) (c3 : Nat) (l1 : List S_Cells) (vf5 : Int) {t w : World} {f : FM} {H : List Seg} (HS : St t w f (H)) (HR4 : SlR ty_Cells f A2 c3 l1) (r1 : Int) (h : clean_valid k l1 vf5 = some r1) :
    Calls Try.prog 40 #[.slice A2 l1.length c3, .int .i64 vf5] w (fun e w' => ∃ (g : FM), e = .returned (Value.int .i64 r1) ∧ FM.le f g ∧ St t w' g (H)) := by
  unfold clean_valid at h
  refine enter Try.func40 rfl (tm := #[.slice A2 l1.length c3, iV vf5, uV, uV, uV, uV, uV, uV, uV, uV, uV, uV, uV, uV, uV, uV, uV, uV, uV, uV, uV, uV, uV, uV, uV, uV, uV, uV, uV, uV, uV, uV, uV, uV, uV, uV, uV, uV, uV, uV, uV, uV, uV, uV, uV, uV, uV, uV, uV, uV, uV, uV, uV, uV, uV, uV, uV, uV, uV, uV, uV, uV]) (by kernel_rfl) ?_
  intro B hret hnor hnp
  refine wp_seq_k (fun K6 hK7 => ?_)
  refine wp_region_lit ?_
  refine seqS1 (a' := ⟨#[.slice A2 l1.length c3, iV vf5, uV, uV, iV 0, uV, uV, uV, uV, uV, uV, uV, uV, uV, uV, uV, uV, uV, uV, uV, uV, uV, uV, uV, uV, uV, uV, uV, uV, uV, uV, uV, uV, uV, uV, uV, uV, uV, uV, uV, uV, uV, uV, uV, uV, uV, uV, uV, uV, uV, uV, uV, uV, uV, uV, uV, uV, uV, uV, uV, uV, uV], []⟩) (by kernel_rfl) ?_
  refine wpList_nil ?_
  refine hK7 _ _ ?_
  refine wp_seq_k (fun K8 hK9 => ?_)
  refine wp_seq_k (fun K10 hK11 => ?_)
  refine wp_region_lit ?_
  refine seqS3 (a' := ⟨#[.slice A2 l1.length c3, iV vf5, uV, uV, iV 0, uV, uV, uV, uV, uV, .slice A2 l1.length c3, iV (l1.length : Int), .bool (decide ((l1.length : Int) > 8)), uV, uV, uV, uV, uV, uV, uV, uV, uV, uV, uV, uV, uV, uV, uV, uV, uV, uV, uV, uV, uV, uV, uV, uV, uV, uV, uV, uV, uV, uV, uV, uV, uV, uV, uV, uV, uV, uV, uV, uV, uV, uV, uV, uV, uV, uV, uV, uV, uV], []⟩) (by kernel_rfl) ?_
  refine wpList_nil ?_
  refine hK11 _ _ ?_
  have hq_ := ite_some h; clear h; rcases hq_ with ⟨c13, h⟩ | ⟨c13, h⟩
  · have c13 : (l1.length : Int) > 8 := c13
    refine wpRwI 12 (x := (decide ((l1.length : Int) > 8))) (v := true) (by kernel_rfl) (decide_eq_true c13) ?_
    refine condT (by kernel_rfl) ?_
    refine wp_seq_k (fun K14 hK15 => ?_)
    refine wp_region_lit ?_
    refine seqS1 (a' := ⟨#[.slice A2 l1.length c3, iV vf5, uV, uV, iV 2, uV, uV, uV, uV, uV, .slice A2 l1.length c3, iV (l1.length : Int), .bool true, uV, uV, uV, uV, uV, uV, uV, uV, uV, uV, uV, uV, uV, uV, uV, uV, uV, uV, uV, uV, uV, uV, uV, uV, uV, uV, uV, uV, uV, uV, uV, uV, uV, uV, uV, uV, uV, uV, uV, uV, uV, uV, uV, uV, uV, uV, uV, uV, uV], []⟩) (by kernel_rfl) ?_
    refine wpList_nil ?_
    refine hK15 _ _ ?_
    refine wp_ret ?_
    refine hret _ _ ?_
    refine ends_still (v := Value.int .i64 2) (by kernel_rfl) (by kernel_rfl) ?_
    injection h with h
    subst h
    exact ⟨f, rfl, FM.le.refl _, HS⟩
  · have c13 : ¬ ((l1.length : Int) > 8) := c13
    refine wpRwI 12 (x := (decide ((l1.length : Int) > 8))) (v := false) (by kernel_rfl) (decide_eq_false c13) ?_
    refine condF (by kernel_rfl) ?_
    refine wp_skip ?_
    refine hK9 _ _ ?_
    refine wp_seq_k (fun K16 hK17 => ?_)
    refine wp_seq_k (fun K18 hK19 => ?_)
    refine wp_region_lit ?_
    refine seqS3 (a' := ⟨#[.slice A2 l1.length c3, iV vf5, uV, uV, iV 0, uV, uV, uV, uV, uV, .slice A2 l1.length c3, iV (l1.length : Int), .bool false, .slice A2 l1.length c3, iV (l1.length : Int), iV 0, uV, uV, uV, uV, uV, uV, uV, uV, uV, uV, uV, uV, uV, uV, uV, uV, uV, uV, uV, uV, uV, uV, uV, uV, uV, uV, uV, uV, uV, uV, uV, uV, uV, uV, uV, uV, uV, uV, uV, uV, uV, uV, uV, uV, uV, uV], []⟩) (by kernel_rfl) ?_
    refine wpList_nil ?_
    refine hK19 _ _ ?_
    refine blockK (fun B20 hx21 hn22 hr23 ho24 hp25 => ?_)
    have hq_ := bind_some h; clear h; obtain ⟨o26, hv86, h⟩ := hq_
    have JR88 : ∀ z_, some (Sum.inl z_) = some o26 → some z_ = some r1 := by
      intro z_ e_; injection e_ with e_; subst e_; exact h
    have J87 : ∀ (f81 : FM) (j85 : Nat → Value) (W83 : World) (a_ : Act), FM.le f f81 → some (Sum.inr ()) = some o26 → St t W83 f81 (H) → a_ = ⟨#[.slice A2 l1.length c3, iV vf5, uV, uV, (j85 0), uV, (j85 1), (j85 2), uV, uV, .slice A2 l1.length c3, iV (l1.length : Int), .bool false, .slice A2 l1.length c3, iV (l1.length : Int), (j85 3), (j85 4), (j85 5), (j85 6), (j85 7), (j85 8), (j85 9), (j85 10), (j85 11), (j85 12), uV, uV, uV, uV, uV, uV, uV, uV, uV, uV, uV, uV, uV, uV, uV, uV, uV, uV, uV, uV, uV, uV, uV, uV, uV, uV, uV, uV, uV, uV, uV, uV, uV, uV, uV, uV, uV], []⟩ → K16 a_ W83 := by
      intro f81 j85 W83 a_ L82 hj89 HS84  hfr_; subst hfr_
      injection hj89 with hj89; subst hj89; try dsimp only at h
      simp only [Sum.elim_inr] at h
      refine hK17 _ _ ?_
      refine wp_seq_k (fun K91 hK92 => ?_)
      refine wp_seq_k (fun K93 hK94 => ?_)
      refine wp_region_lit ?_
      refine seqS3 (a' := ⟨#[.slice A2 l1.length c3, iV vf5, uV, uV, (j85 0), uV, (j85 1), (j85 2), uV, uV, .slice A2 l1.length c3, iV (l1.length : Int), .bool false, .slice A2 l1.length c3, iV (l1.length : Int), (j85 3), (j85 4), (j85 5), (j85 6), (j85 7), (j85 8), (j85 9), (j85 10), (j85 11), (j85 12), .slice A2 l1.length c3, iV (l1.length : Int), iV 0, uV, uV, uV, uV, uV, uV, uV, uV, uV, uV, uV, uV, uV, uV, uV, uV, uV, uV, uV, uV, uV, uV, uV, uV, uV, uV, uV, uV, uV, uV, uV, uV, uV, uV], []⟩) (by kernel_rfl) ?_
      refine wpList_nil ?_
      refine hK94 _ _ ?_
      refine blockK (fun B95 hx96 hn97 hr98 ho99 hp100 => ?_)
      have hq_ := bind_some h; clear h; obtain ⟨o101, hv166, h⟩ := hq_
      have JR168 : ∀ z_, some (Sum.inl z_) = some o101 → some z_ = some r1 := by
        intro z_ e_; injection e_ with e_; subst e_; exact h
      have J167 : ∀ (f161 : FM) (j165 : Nat → Value) (W163 : World) (a_ : Act), FM.le f81 f161 → some (Sum.inr ()) = some o101 → St t W163 f161 (H) → a_ = ⟨#[.slice A2 l1.length c3, iV vf5, uV, uV, (j165 0), uV, (j85 1), (j85 2), uV, (j165 1), .slice A2 l1.length c3, iV (l1.length : Int), .bool false, .slice A2 l1.length c3, iV (l1.length : Int), (j85 3), (j85 4), (j85 5), (j85 6), (j85 7), (j85 8), (j85 9), (j85 10), (j85 11), (j85 12), .slice A2 l1.length c3, iV (l1.length : Int), (j165 2), (j165 3), (j165 4), (j165 5), (j165 6), (j165 7), (j165 8), (j165 9), (j165 10), (j165 11), (j165 12), (j165 13), (j165 14), (j165 15), (j165 16), (j165 17), (j165 18), (j165 19), (j165 20), (j165 21), (j165 22), uV, uV, uV, uV, uV, uV, uV, uV, uV, uV, uV, uV, uV, uV], []⟩ → K91 a_ W163 := by
        intro f161 j165 W163 a_ L162 hj169 HS164  hfr_; subst hfr_
        injection hj169 with hj169; subst hj169; try dsimp only at h
        simp only [Sum.elim_inr] at h
        refine hK92 _ _ ?_
        refine wp_seq_k (fun K171 hK172 => ?_)
        refine blockK (fun B173 hx174 hn175 hr176 ho177 hp178 => ?_)
        refine wp_seq_k (fun K180 hK181 => ?_)
        refine wp_region_lit ?_
        refine seqS3 (a' := ⟨#[.slice A2 l1.length c3, iV vf5, uV, uV, (j165 0), uV, (j85 1), (j85 2), uV, (j165 1), .slice A2 l1.length c3, iV (l1.length : Int), .bool false, .slice A2 l1.length c3, iV (l1.length : Int), (j85 3), (j85 4), (j85 5), (j85 6), (j85 7), (j85 8), (j85 9), (j85 10), (j85 11), (j85 12), .slice A2 l1.length c3, iV (l1.length : Int), (j165 2), (j165 3), (j165 4), (j165 5), (j165 6), (j165 7), (j165 8), (j165 9), (j165 10), (j165 11), (j165 12), (j165 13), (j165 14), (j165 15), (j165 16), (j165 17), (j165 18), (j165 19), (j165 20), (j165 21), (j165 22), .bool (decide (vf5 < 0)), iV vf5, .bool (decide (vf5 < 0)), uV, uV, uV, uV, uV, uV, uV, uV, uV, uV, uV], []⟩) (by kernel_rfl) ?_
        refine wpList_nil ?_
        refine hK181 _ _ ?_
        have hq_ := ite_some h; clear h; rcases hq_ with ⟨c183, h⟩ | ⟨c183, h⟩
        · have c183 : vf5 < 0 := c183
          refine wpRwI 48 (x := (decide (vf5 < 0))) (v := true) (by kernel_rfl) (decide_eq_true c183) ?_
          refine wpRwI 50 (x := (decide (vf5 < 0))) (v := true) (by kernel_rfl) (decide_eq_true c183) ?_
          refine condT (by kernel_rfl) ?_
          refine wp_seq_k (fun K184 hK185 => ?_)
          refine wp_region_lit ?_
          refine seqS1 (a' := ⟨#[.slice A2 l1.length c3, iV vf5, uV, uV, iV 1, uV, (j85 1), (j85 2), uV, (j165 1), .slice A2 l1.length c3, iV (l1.length : Int), .bool false, .slice A2 l1.length c3, iV (l1.length : Int), (j85 3), (j85 4), (j85 5), (j85 6), (j85 7), (j85 8), (j85 9), (j85 10), (j85 11), (j85 12), .slice A2 l1.length c3, iV (l1.length : Int), (j165 2), (j165 3), (j165 4), (j165 5), (j165 6), (j165 7), (j165 8), (j165 9), (j165 10), (j165 11), (j165 12), (j165 13), (j165 14), (j165 15), (j165 16), (j165 17), (j165 18), (j165 19), (j165 20), (j165 21), (j165 22), .bool true, iV vf5, .bool true, uV, uV, uV, uV, uV, uV, uV, uV, uV, uV, uV], []⟩) (by kernel_rfl) ?_
          refine wpList_nil ?_
          refine hK185 _ _ ?_
          refine wp_ret ?_
          refine hr176 _ _ ?_
          refine hret _ _ ?_
          refine ends_still (v := Value.int .i64 1) (by kernel_rfl) (by kernel_rfl) ?_
          injection h with h
          subst h
          exact ⟨f161, rfl, (L82.trans L162), HS164⟩
        · have c183 : ¬ (vf5 < 0) := c183
          refine wpRwI 48 (x := (decide (vf5 < 0))) (v := false) (by kernel_rfl) (decide_eq_false c183) ?_
          refine wpRwI 50 (x := (decide (vf5 < 0))) (v := false) (by kernel_rfl) (decide_eq_false c183) ?_
          refine condF (by kernel_rfl) ?_
          refine wp_seq_k (fun K186 hK187 => ?_)
          refine wp_region_lit ?_
          refine seqS3 (a' := ⟨#[.slice A2 l1.length c3, iV vf5, uV, uV, (j165 0), uV, (j85 1), (j85 2), uV, (j165 1), .slice A2 l1.length c3, iV (l1.length : Int), .bool false, .slice A2 l1.length c3, iV (l1.length : Int), (j85 3), (j85 4), (j85 5), (j85 6), (j85 7), (j85 8), (j85 9), (j85 10), (j85 11), (j85 12), .slice A2 l1.length c3, iV (l1.length : Int), (j165 2), (j165 3), (j165 4), (j165 5), (j165 6), (j165 7), (j165 8), (j165 9), (j165 10), (j165 11), (j165 12), (j165 13), (j165 14), (j165 15), (j165 16), (j165 17), (j165 18), (j165 19), (j165 20), (j165 21), (j165 22), .bool false, iV vf5, .bool false, uV, iV vf5, .bool (decide (vf5 ≥ 8)), .bool (decide (vf5 ≥ 8)), uV, uV, uV, uV, uV, uV, uV], []⟩) (by kernel_rfl) ?_
          have hq_ := ite_some h; clear h; rcases hq_ with ⟨c188, h⟩ | ⟨c188, h⟩
          · have c188 : vf5 ≥ 8 := c188
            refine seqRwI 53 (x := (decide (vf5 ≥ 8))) (v := true) (by kernel_rfl) (decide_eq_true c188) ?_
            refine seqRwI 54 (x := (decide (vf5 ≥ 8))) (v := true) (by kernel_rfl) (decide_eq_true c188) ?_
            refine seqS8 (a' := ⟨#[.slice A2 l1.length c3, iV vf5, uV, uV, (j165 0), uV, (j85 1), (j85 2), uV, (j165 1), .slice A2 l1.length c3, iV (l1.length : Int), .bool false, .slice A2 l1.length c3, iV (l1.length : Int), (j85 3), (j85 4), (j85 5), (j85 6), (j85 7), (j85 8), (j85 9), (j85 10), (j85 11), (j85 12), .slice A2 l1.length c3, iV (l1.length : Int), (j165 2), (j165 3), (j165 4), (j165 5), (j165 6), (j165 7), (j165 8), (j165 9), (j165 10), (j165 11), (j165 12), (j165 13), (j165 14), (j165 15), (j165 16), (j165 17), (j165 18), (j165 19), (j165 20), (j165 21), (j165 22), .bool false, iV vf5, .bool false, .bool true, iV vf5, .bool true, .bool true, uV, uV, uV, uV, uV, uV, .bool true], []⟩) (by kernel_rfl) ?_
            refine wpList_nil ?_
            refine hK187 _ _ ?_
            refine condT (by kernel_rfl) ?_
            refine wp_seq_k (fun K189 hK190 => ?_)
            refine wp_region_lit ?_
            refine seqS1 (a' := ⟨#[.slice A2 l1.length c3, iV vf5, uV, uV, iV 14, uV, (j85 1), (j85 2), uV, (j165 1), .slice A2 l1.length c3, iV (l1.length : Int), .bool false, .slice A2 l1.length c3, iV (l1.length : Int), (j85 3), (j85 4), (j85 5), (j85 6), (j85 7), (j85 8), (j85 9), (j85 10), (j85 11), (j85 12), .slice A2 l1.length c3, iV (l1.length : Int), (j165 2), (j165 3), (j165 4), (j165 5), (j165 6), (j165 7), (j165 8), (j165 9), (j165 10), (j165 11), (j165 12), (j165 13), (j165 14), (j165 15), (j165 16), (j165 17), (j165 18), (j165 19), (j165 20), (j165 21), (j165 22), .bool false, iV vf5, .bool false, .bool true, iV vf5, .bool true, .bool true, uV, uV, uV, uV, uV, uV, .bool true], []⟩) (by kernel_rfl) ?_
            refine wpList_nil ?_
            refine hK190 _ _ ?_
            refine wp_ret ?_
            refine hr176 _ _ ?_
            refine hret _ _ ?_
            refine ends_still (v := Value.int .i64 14) (by kernel_rfl) (by kernel_rfl) ?_
            injection h with h
            subst h
            exact ⟨f161, rfl, (L82.trans L162), HS164⟩
          · have c188 : ¬ (vf5 ≥ 8) := c188
            refine seqRwI 53 (x := (decide (vf5 ≥ 8))) (v := false) (by kernel_rfl) (decide_eq_false c188) ?_
            refine seqRwI 54 (x := (decide (vf5 ≥ 8))) (v := false) (by kernel_rfl) (decide_eq_false c188) ?_
            refine seqS8 (a' := ⟨#[.slice A2 l1.length c3, iV vf5, uV, uV, (j165 0), uV, (j85 1), (j85 2), uV, (j165 1), .slice A2 l1.length c3, iV (l1.length : Int), .bool false, .slice A2 l1.length c3, iV (l1.length : Int), (j85 3), (j85 4), (j85 5), (j85 6), (j85 7), (j85 8), (j85 9), (j85 10), (j85 11), (j85 12), .slice A2 l1.length c3, iV (l1.length : Int), (j165 2), (j165 3), (j165 4), (j165 5), (j165 6), (j165 7), (j165 8), (j165 9), (j165 10), (j165 11), (j165 12), (j165 13), (j165 14), (j165 15), (j165 16), (j165 17), (j165 18), (j165 19), (j165 20), (j165 21), (j165 22), .bool false, iV vf5, .bool false, .bool (decide ((l1.length : Int) < (w64 ((w64 (2 * vf5)) + 1)))), iV vf5, .bool false, .bool false, .slice A2 l1.length c3, iV (l1.length : Int), iV vf5, iV (w64 (2 * vf5)), iV (w64 ((w64 (2 * vf5)) + 1)), .bool (decide ((l1.length : Int) < (w64 ((w64 (2 * vf5)) + 1)))), .bool (decide ((l1.length : Int) < (w64 ((w64 (2 * vf5)) + 1))))], []⟩) (by kernel_rfl) ?_
            refine wpList_nil ?_
            refine hK187 _ _ ?_
            have hq_ := ite_some h; clear h; rcases hq_ with ⟨c192, h⟩ | ⟨c192, h⟩
            · have c192 : (l1.length : Int) < (w64 ((w64 (2 * vf5)) + 1)) := c192
              refine wpRwI 51 (x := (decide ((l1.length : Int) < (w64 ((w64 (2 * vf5)) + 1))))) (v := true) (by kernel_rfl) (decide_eq_true c192) ?_
              refine wpRwI 60 (x := (decide ((l1.length : Int) < (w64 ((w64 (2 * vf5)) + 1))))) (v := true) (by kernel_rfl) (decide_eq_true c192) ?_
              refine wpRwI 61 (x := (decide ((l1.length : Int) < (w64 ((w64 (2 * vf5)) + 1))))) (v := true) (by kernel_rfl) (decide_eq_true c192) ?_
              refine condT (by kernel_rfl) ?_
              refine wp_seq_k (fun K193 hK194 => ?_)
              refine wp_region_lit ?_
              refine seqS1 (a' := ⟨#[.slice A2 l1.length c3, iV vf5, uV, uV, iV 14, uV, (j85 1), (j85 2), uV, (j165 1), .slice A2 l1.length c3, iV (l1.length : Int), .bool false, .slice A2 l1.length c3, iV (l1.length : Int), (j85 3), (j85 4), (j85 5), (j85 6), (j85 7), (j85 8), (j85 9), (j85 10), (j85 11), (j85 12), .slice A2 l1.length c3, iV (l1.length : Int), (j165 2), (j165 3), (j165 4), (j165 5), (j165 6), (j165 7), (j165 8), (j165 9), (j165 10), (j165 11), (j165 12), (j165 13), (j165 14), (j165 15), (j165 16), (j165 17), (j165 18), (j165 19), (j165 20), (j165 21), (j165 22), .bool false, iV vf5, .bool false, .bool true, iV vf5, .bool false, .bool false, .slice A2 l1.length c3, iV (l1.length : Int), iV vf5, iV (w64 (2 * vf5)), iV (w64 ((w64 (2 * vf5)) + 1)), .bool true, .bool true], []⟩) (by kernel_rfl) ?_
              refine wpList_nil ?_
              refine hK194 _ _ ?_
              refine wp_ret ?_
              refine hr176 _ _ ?_
              refine hret _ _ ?_
              refine ends_still (v := Value.int .i64 14) (by kernel_rfl) (by kernel_rfl) ?_
              injection h with h
              subst h
              exact ⟨f161, rfl, (L82.trans L162), HS164⟩
            · have c192 : ¬ ((l1.length : Int) < (w64 ((w64 (2 * vf5)) + 1))) := c192
              refine wpRwI 51 (x := (decide ((l1.length : Int) < (w64 ((w64 (2 * vf5)) + 1))))) (v := false) (by kernel_rfl) (decide_eq_false c192) ?_
              refine wpRwI 60 (x := (decide ((l1.length : Int) < (w64 ((w64 (2 * vf5)) + 1))))) (v := false) (by kernel_rfl) (decide_eq_false c192) ?_
              refine wpRwI 61 (x := (decide ((l1.length : Int) < (w64 ((w64 (2 * vf5)) + 1))))) (v := false) (by kernel_rfl) (decide_eq_false c192) ?_
              refine condF (by kernel_rfl) ?_
              refine wp_skip ?_
              refine hn175 _ _ ?_
              refine hK172 _ _ ?_
              refine wp_seq_k (fun K195 hK196 => ?_)
              refine wp_region_lit ?_
              refine seqS1 (a' := ⟨#[.slice A2 l1.length c3, iV vf5, uV, uV, iV 0, uV, (j85 1), (j85 2), uV, (j165 1), .slice A2 l1.length c3, iV (l1.length : Int), .bool false, .slice A2 l1.length c3, iV (l1.length : Int), (j85 3), (j85 4), (j85 5), (j85 6), (j85 7), (j85 8), (j85 9), (j85 10), (j85 11), (j85 12), .slice A2 l1.length c3, iV (l1.length : Int), (j165 2), (j165 3), (j165 4), (j165 5), (j165 6), (j165 7), (j165 8), (j165 9), (j165 10), (j165 11), (j165 12), (j165 13), (j165 14), (j165 15), (j165 16), (j165 17), (j165 18), (j165 19), (j165 20), (j165 21), (j165 22), .bool false, iV vf5, .bool false, .bool false, iV vf5, .bool false, .bool false, .slice A2 l1.length c3, iV (l1.length : Int), iV vf5, iV (w64 (2 * vf5)), iV (w64 ((w64 (2 * vf5)) + 1)), .bool false, .bool false], []⟩) (by kernel_rfl) ?_
              refine wpList_nil ?_
              refine hK196 _ _ ?_
              refine wp_ret ?_
              refine hret _ _ ?_
              refine ends_still (v := Value.int .i64 0) (by kernel_rfl) (by kernel_rfl) ?_
              injection h with h
              subst h
              exact ⟨f161, rfl, (L82.trans L162), HS164⟩
      clear h; have h := hv166; clear hv166
      refine loopK (fun n_ a_ w_ => ∃ (f105 : FM) (x110 : Int) (j109 : Nat → Value), FM.le f81 f105 ∧ St t w_ f105 (H) ∧ clean_valid.l1 k l1 n_ x110 = some o101 ∧ a_ = ⟨#[.slice A2 l1.length c3, iV vf5, uV, uV, (j109 0), uV, (j85 1), (j85 2), uV, (j109 1), .slice A2 l1.length c3, iV (l1.length : Int), .bool false, .slice A2 l1.length c3, iV (l1.length : Int), (j85 3), (j85 4), (j85 5), (j85 6), (j85 7), (j85 8), (j85 9), (j85 10), (j85 11), (j85 12), .slice A2 l1.length c3, iV (l1.length : Int), iV x110, (j109 2), (j109 3), (j109 4), (j109 5), (j109 6), (j109 7), (j109 8), (j109 9), (j109 10), (j109 11), (j109 12), (j109 13), (j109 14), (j109 15), (j109 16), (j109 17), (j109 18), (j109 19), (j109 20), (j109 21), uV, uV, uV, uV, uV, uV, uV, uV, uV, uV, uV, uV, uV, uV], []⟩) k ⟨f81, 0, (fun i_ => [(j85 0), undef, undef, undef, undef, undef, undef, undef, undef, undef, undef, undef, undef, undef, undef, undef, undef, undef, undef, undef, undef, undef].getD i_ undef), (FM.le.refl _), HS84, h, (by kernel_rfl)⟩ ?_
      clear h
      rintro n104 _ W107 ⟨f105, x110, j109, L106, HS108, h, rfl⟩ K102 hK103
      obtain _ | n104 := n104
      · exact nomatch h
      simp only [clean_valid.l1] at h
      refine wp_seq_k (fun K111 hK112 => ?_)
      refine wp_region_lit ?_
      refine seqS1 (a' := ⟨#[.slice A2 l1.length c3, iV vf5, uV, uV, (j109 0), uV, (j85 1), (j85 2), uV, (j109 1), .slice A2 l1.length c3, iV (l1.length : Int), .bool false, .slice A2 l1.length c3, iV (l1.length : Int), (j85 3), (j85 4), (j85 5), (j85 6), (j85 7), (j85 8), (j85 9), (j85 10), (j85 11), (j85 12), .slice A2 l1.length c3, iV (l1.length : Int), iV x110, .bool (decide (x110 < (l1.length : Int))), (j109 3), (j109 4), (j109 5), (j109 6), (j109 7), (j109 8), (j109 9), (j109 10), (j109 11), (j109 12), (j109 13), (j109 14), (j109 15), (j109 16), (j109 17), (j109 18), (j109 19), (j109 20), (j109 21), uV, uV, uV, uV, uV, uV, uV, uV, uV, uV, uV, uV, uV, uV], []⟩) (by kernel_rfl) ?_
      refine wpList_nil ?_
      refine hK112 _ _ ?_
      refine wp_seq_k (fun K113 hK114 => ?_)
      have hq_ := ite_some h; clear h; rcases hq_ with ⟨c116, h⟩ | ⟨c116, h⟩
      · have c116 : x110 < (l1.length : Int) := c116
        refine wpRwI 28 (x := (decide (x110 < (l1.length : Int)))) (v := true) (by kernel_rfl) (decide_eq_true c116) ?_
        refine condT (by kernel_rfl) ?_
        refine wp_skip ?_
        refine hK114 _ _ ?_
        refine wp_seq_k (fun K117 hK118 => ?_)
        refine blockK (fun B119 hx120 hn121 hr122 ho123 hp124 => ?_)
        refine wp_seq_k (fun K126 hK127 => ?_)
        refine wp_region_lit ?_
        have hq_ := guard_some h; clear h; obtain ⟨c128, h⟩ := hq_
        have c128 : 0 ≤ x110 := c128
        obtain ⟨b132, of133, cs129, hA134, hr130, hc131⟩ := (HR4.mono (L82.trans L106)).at (i := x110) c128 c116
        obtain ⟨A135, c135, rfl, HR135⟩ := hr130
        refine seqK rfl (does_run (run_indexE hA134 (sz := 3) rfl Try.underlying27 (by kernel_rfl) (by kernel_rfl : _ = Value.slice A2 l1.length c3) (by kernel_rfl : _ = Value.int .i64 x110) c128 c116 W107) ?_)
        refine seqK rfl (does_run (run_loadN (n := 3) rfl Try.underlying34 rfl (by kernel_rfl) (by kernel_rfl : _ = Value.pointer (some ⟨b132, of133 + (x110 : Int).toNat * 3, none⟩)) (cs := [.int .i64 ((rd l1 x110).W), .int .i64 ((rd l1 x110).H), .slice A135 ((rd l1 x110).At).length c135]) rfl (fun j_ hj_ => ((hc131 (FM.le.refl _) HS108) j_ hj_))) ?_)
        refine seqK rfl (does_alloc (z := Value.agg #[.int .i64 0, .int .i64 0, .slice none 0 0]) (cs := #[.int .i64 0, .int .i64 0, .slice none 0 0]) rfl (by kernel_rfl) rfl HS108 ?_)
        intro b136 W137 HS138
        refine seqK rfl (does_store (n := 3) (vs := [.int .i64 ((rd l1 x110).W), .int .i64 ((rd l1 x110).H), .slice A135 ((rd l1 x110).At).length c135]) (cs' := #[.int .i64 ((rd l1 x110).W), .int .i64 ((rd l1 x110).H), .slice A135 ((rd l1 x110).At).length c135]) rfl (by kernel_rfl) (by kernel_rfl : _ = Value.pointer (some ⟨b136, 0, none⟩)) (by kernel_rfl : _ = Value.agg #[.int .i64 ((rd l1 x110).W), .int .i64 ((rd l1 x110).H), .slice A135 ((rd l1 x110).At).length c135]) rfl rfl (by intro u_ hu_; simp only [List.mem_cons, List.not_mem_nil, or_false] at hu_; rcases hu_ with rfl | rfl | rfl <;> rfl) HS138 (Nat.le_of_ble_eq_true rfl) (by kernel_rfl) ?_)
        intro W140 HS141
        refine wpList_nil ?_
        refine hK127 _ _ ?_
        refine wp_seq_k (fun K142 hK143 => ?_)
        refine heldG (S := Sg t f105 ([(b136, .cells #[.int .i64 ((rd l1 x110).W), .int .i64 ((rd l1 x110).H), .slice A135 ((rd l1 x110).At).length c135] 34 (0, 0))] :: H) []) (n := 16) (by kernel_rfl) rfl HS141 ?_
        intro W144 HS145
        refine takeG [0] (n := 16) (fuel := 15) (l' := #[true, false, false, false, false, false, false, false, false, false, false, false, false, false, false, false]) (a' := ⟨#[.slice A2 l1.length c3, iV vf5, uV, uV, (j109 0), uV, (j85 1), (j85 2), uV, .pointer (some ⟨b136, 0, none⟩), .slice A2 l1.length c3, iV (l1.length : Int), .bool false, .slice A2 l1.length c3, iV (l1.length : Int), (j85 3), (j85 4), (j85 5), (j85 6), (j85 7), (j85 8), (j85 9), (j85 10), (j85 11), (j85 12), .slice A2 l1.length c3, iV (l1.length : Int), iV x110, .bool true, .pointer (some ⟨b132, of133 + (x110 : Int).toNat * 3, none⟩), .agg #[iV ((rd l1 x110).W), iV ((rd l1 x110).H), .slice A135 ((rd l1 x110).At).length c135], .pointer (some ⟨b136, 0, none⟩), (j109 6), (j109 7), (j109 8), (j109 9), (j109 10), (j109 11), (j109 12), (j109 13), (j109 14), (j109 15), (j109 16), (j109 17), (j109 18), (j109 19), (j109 20), (j109 21), uV, uV, uV, uV, uV, uV, uV, uV, uV, uV, uV, uV, uV, uV], []⟩) rfl (by kernel_rfl) (by kernel_rfl) (by kernel_rfl) (fun ch_ a_ w_ q_ => (fun ch_ a_ w_ q_ => hnp ch_ a_ w_ (hp100 ch_ a_ w_ q_)) ch_ a_ w_ (hp124 ch_ a_ w_ q_)) (Sg.g0 (Sx.of [] (FM.le.refl _) HS145)) ?_
        refine takeGQ 1 [] rfl (by kernel_rfl) (by kernel_rfl) (by kernel_rfl) (by kernel_rfl) (by kernel_rfl) (by kernel_rfl) (fun ch_ a_ w_ q_ => (fun ch_ a_ w_ q_ => hnp ch_ a_ w_ (hp100 ch_ a_ w_ q_)) ch_ a_ w_ (hp124 ch_ a_ w_ q_)) (Sg.g0 (Sx.of [] (FM.le.refl _) HS145)) (fun w_ hw_ => by obtain ⟨g_, hl_, hS_⟩ := hw_.st; exact run_load rfl Try.underlying3 rfl (by kernel_rfl : _ = Value.pointer (some ⟨b136, 0, none⟩)) (hS_.cell 0)) ?_
        have hq_ := guard_some h; clear h; obtain ⟨c146, h⟩ := hq_
        have c146 : 0 < (l1.length : Int) := c146
        obtain ⟨b150, of151, cs147, hA152, hr148, hc149⟩ := (HR4.mono (L82.trans L106)).at (i := 0) (by decide) c146
        obtain ⟨A153, c153, rfl, HR153⟩ := hr148
        refine takeG [2] (n := 14) (fuel := 13) (l' := #[true, true, true, false, false, false, false, false, false, false, false, false, false, false, false, false]) (a' := ⟨#[.slice A2 l1.length c3, iV vf5, uV, uV, (j109 0), uV, (j85 1), (j85 2), uV, .pointer (some ⟨b136, 0, none⟩), .slice A2 l1.length c3, iV (l1.length : Int), .bool false, .slice A2 l1.length c3, iV (l1.length : Int), (j85 3), (j85 4), (j85 5), (j85 6), (j85 7), (j85 8), (j85 9), (j85 10), (j85 11), (j85 12), .slice A2 l1.length c3, iV (l1.length : Int), iV x110, .bool true, .pointer (some ⟨b132, of133 + (x110 : Int).toNat * 3, none⟩), .agg #[iV ((rd l1 x110).W), iV ((rd l1 x110).H), .slice A135 ((rd l1 x110).At).length c135], .pointer (some ⟨b136, 0, none⟩), iV ((rd l1 x110).W), .slice A2 l1.length c3, (j109 8), (j109 9), (j109 10), (j109 11), (j109 12), (j109 13), (j109 14), (j109 15), (j109 16), (j109 17), (j109 18), (j109 19), (j109 20), (j109 21), uV, uV, uV, uV, uV, uV, uV, uV, uV, uV, uV, uV, uV, uV], []⟩) rfl (by kernel_rfl) (by kernel_rfl) (by kernel_rfl) (fun ch_ a_ w_ q_ => (fun ch_ a_ w_ q_ => hnp ch_ a_ w_ (hp100 ch_ a_ w_ q_)) ch_ a_ w_ (hp124 ch_ a_ w_ q_)) (Sg.g0 (Sx.of [] (FM.le.refl _) HS145)) ?_
        refine takeGQ 3 [] rfl (by kernel_rfl) (by kernel_rfl) (by kernel_rfl) (by kernel_rfl) (by kernel_rfl) (by kernel_rfl) (fun ch_ a_ w_ q_ => (fun ch_ a_ w_ q_ => hnp ch_ a_ w_ (hp100 ch_ a_ w_ q_)) ch_ a_ w_ (hp124 ch_ a_ w_ q_)) (Sg.g0 (Sx.of [] (FM.le.refl _) HS145)) (fun w_ hw_ => by obtain ⟨g_, hl_, hS_⟩ := hw_.st; exact run_indexE hA152 (sz := 3) rfl Try.underlying27 (by kernel_rfl) (by kernel_rfl : _ = Value.slice A2 l1.length c3) (by kernel_rfl : _ = Value.int .i64 0) (by decide) c146 w_) ?_
        refine takeG [4] (n := 12) (fuel := 11) (l' := #[true, true, true, true, true, false, false, false, false, false, false, false, false, false, false, false]) (a' := ⟨#[.slice A2 l1.length c3, iV vf5, uV, uV, (j109 0), uV, (j85 1), (j85 2), uV, .pointer (some ⟨b136, 0, none⟩), .slice A2 l1.length c3, iV (l1.length : Int), .bool false, .slice A2 l1.length c3, iV (l1.length : Int), (j85 3), (j85 4), (j85 5), (j85 6), (j85 7), (j85 8), (j85 9), (j85 10), (j85 11), (j85 12), .slice A2 l1.length c3, iV (l1.length : Int), iV x110, .bool true, .pointer (some ⟨b132, of133 + (x110 : Int).toNat * 3, none⟩), .agg #[iV ((rd l1 x110).W), iV ((rd l1 x110).H), .slice A135 ((rd l1 x110).At).length c135], .pointer (some ⟨b136, 0, none⟩), iV ((rd l1 x110).W), .slice A2 l1.length c3, .pointer (some ⟨b150, of151 + (0 : Int).toNat * 3, none⟩), .pointer (some ⟨b150, of151 + (0 : Int).toNat * 3, none⟩), (j109 10), (j109 11), (j109 12), (j109 13), (j109 14), (j109 15), (j109 16), (j109 17), (j109 18), (j109 19), (j109 20), (j109 21), uV, uV, uV, uV, uV, uV, uV, uV, uV, uV, uV, uV, uV, uV], []⟩) rfl (by kernel_rfl) (by kernel_rfl) (by kernel_rfl) (fun ch_ a_ w_ q_ => (fun ch_ a_ w_ q_ => hnp ch_ a_ w_ (hp100 ch_ a_ w_ q_)) ch_ a_ w_ (hp124 ch_ a_ w_ q_)) (Sg.g0 (Sx.of [] (FM.le.refl _) HS145)) ?_
        refine takeGQ 5 [] rfl (by kernel_rfl) (by kernel_rfl) (by kernel_rfl) (by kernel_rfl) (by kernel_rfl) (by kernel_rfl) (fun ch_ a_ w_ q_ => (fun ch_ a_ w_ q_ => hnp ch_ a_ w_ (hp100 ch_ a_ w_ q_)) ch_ a_ w_ (hp124 ch_ a_ w_ q_)) (Sg.g0 (Sx.of [] (FM.le.refl _) HS145)) (fun w_ hw_ => by obtain ⟨g_, hl_, hS_⟩ := hw_.st; exact run_load rfl Try.underlying3 rfl (by kernel_rfl : _ = Value.pointer (some ⟨b150, of151 + (0 : Int).toNat * 3, none⟩)) ((hc149 hl_ hS_) 0 (by decide))) ?_
        refine takeG [6, 7] (n := 10) (fuel := 8) (l' := #[true, true, true, true, true, true, true, true, false, false, false, false, false, false, false, false]) (a' := ⟨#[.slice A2 l1.length c3, iV vf5, uV, uV, (j109 0), uV, (j85 1), (j85 2), uV, .pointer (some ⟨b136, 0, none⟩), .slice A2 l1.length c3, iV (l1.length : Int), .bool false, .slice A2 l1.length c3, iV (l1.length : Int), (j85 3), (j85 4), (j85 5), (j85 6), (j85 7), (j85 8), (j85 9), (j85 10), (j85 11), (j85 12), .slice A2 l1.length c3, iV (l1.length : Int), iV x110, .bool true, .pointer (some ⟨b132, of133 + (x110 : Int).toNat * 3, none⟩), .agg #[iV ((rd l1 x110).W), iV ((rd l1 x110).H), .slice A135 ((rd l1 x110).At).length c135], .pointer (some ⟨b136, 0, none⟩), iV ((rd l1 x110).W), .slice A2 l1.length c3, .pointer (some ⟨b150, of151 + (0 : Int).toNat * 3, none⟩), .pointer (some ⟨b150, of151 + (0 : Int).toNat * 3, none⟩), iV ((rd l1 0).W), .bool (((rd l1 x110).W) != ((rd l1 0).W)), .bool (((rd l1 x110).W) != ((rd l1 0).W)), (j109 13), (j109 14), (j109 15), (j109 16), (j109 17), (j109 18), (j109 19), (j109 20), (j109 21), uV, uV, uV, uV, uV, uV, uV, uV, uV, uV, uV, uV, uV, uV], []⟩) rfl (by kernel_rfl) (by kernel_rfl) (by kernel_rfl) (fun ch_ a_ w_ q_ => (fun ch_ a_ w_ q_ => hnp ch_ a_ w_ (hp100 ch_ a_ w_ q_)) ch_ a_ w_ (hp124 ch_ a_ w_ q_)) (Sg.g0 (Sx.of [] (FM.le.refl _) HS145)) ?_
        have hq_ := ite_some h; clear h; rcases hq_ with ⟨c154, h⟩ | ⟨c154, h⟩
        · have c154 : ((rd l1 x110).W) ≠ ((rd l1 0).W) := c154
          refine gateRwI 37 (x := (((rd l1 x110).W) != ((rd l1 0).W))) (v := true) (by kernel_rfl) (bne_iff_ne.mpr c154) ?_
          refine gateRwI 38 (x := (((rd l1 x110).W) != ((rd l1 0).W))) (v := true) (by kernel_rfl) (bne_iff_ne.mpr c154) ?_
          refine takeG [8, 9, 10, 11, 12, 13, 14, 15] (n := 8) (fuel := 0) (l' := #[true, true, true, true, true, true, true, true, true, true, true, true, true, true, true, true]) (a' := ⟨#[.slice A2 l1.length c3, iV vf5, uV, uV, (j109 0), uV, (j85 1), (j85 2), uV, .pointer (some ⟨b136, 0, none⟩), .slice A2 l1.length c3, iV (l1.length : Int), .bool false, .slice A2 l1.length c3, iV (l1.length : Int), (j85 3), (j85 4), (j85 5), (j85 6), (j85 7), (j85 8), (j85 9), (j85 10), (j85 11), (j85 12), .slice A2 l1.length c3, iV (l1.length : Int), iV x110, .bool true, .pointer (some ⟨b132, of133 + (x110 : Int).toNat * 3, none⟩), .agg #[iV ((rd l1 x110).W), iV ((rd l1 x110).H), .slice A135 ((rd l1 x110).At).length c135], .pointer (some ⟨b136, 0, none⟩), iV ((rd l1 x110).W), .slice A2 l1.length c3, .pointer (some ⟨b150, of151 + (0 : Int).toNat * 3, none⟩), .pointer (some ⟨b150, of151 + (0 : Int).toNat * 3, none⟩), iV ((rd l1 0).W), .bool true, .bool true, uV, uV, uV, uV, uV, uV, uV, .bool true, (j109 21), uV, uV, uV, uV, uV, uV, uV, uV, uV, uV, uV, uV, uV, uV], []⟩) rfl (by kernel_rfl) (by kernel_rfl) (by kernel_rfl) (fun ch_ a_ w_ q_ => (fun ch_ a_ w_ q_ => hnp ch_ a_ w_ (hp100 ch_ a_ w_ q_)) ch_ a_ w_ (hp124 ch_ a_ w_ q_)) (Sg.g0 (Sx.of [] (FM.le.refl _) HS145)) ?_
          refine doneG (by kernel_rfl) ?_ _
          refine hK143 _ _ ?_
          refine condT (by kernel_rfl) ?_
          refine wp_seq_k (fun K155 hK156 => ?_)
          refine wp_region_lit ?_
          refine seqS1 (a' := ⟨#[.slice A2 l1.length c3, iV vf5, uV, uV, iV 3, uV, (j85 1), (j85 2), uV, .pointer (some ⟨b136, 0, none⟩), .slice A2 l1.length c3, iV (l1.length : Int), .bool false, .slice A2 l1.length c3, iV (l1.length : Int), (j85 3), (j85 4), (j85 5), (j85 6), (j85 7), (j85 8), (j85 9), (j85 10), (j85 11), (j85 12), .slice A2 l1.length c3, iV (l1.length : Int), iV x110, .bool true, .pointer (some ⟨b132, of133 + (x110 : Int).toNat * 3, none⟩), .agg #[iV ((rd l1 x110).W), iV ((rd l1 x110).H), .slice A135 ((rd l1 x110).At).length c135], .pointer (some ⟨b136, 0, none⟩), iV ((rd l1 x110).W), .slice A2 l1.length c3, .pointer (some ⟨b150, of151 + (0 : Int).toNat * 3, none⟩), .pointer (some ⟨b150, of151 + (0 : Int).toNat * 3, none⟩), iV ((rd l1 0).W), .bool true, .bool true, uV, uV, uV, uV, uV, uV, uV, .bool true, (j109 21), uV, uV, uV, uV, uV, uV, uV, uV, uV, uV, uV, uV, uV, uV], []⟩) (by kernel_rfl) ?_
          refine wpList_nil ?_
          refine hK156 _ _ ?_
          refine wp_ret ?_
          refine hr122 _ _ ?_
          refine hr98 _ _ ?_
          refine hret _ _ ?_
          refine ends_still (v := Value.int .i64 3) (by kernel_rfl) (by kernel_rfl) ?_
          have HS198 := HS145.drop
          replace h := JR168 _ h
          injection h with h
          subst h
          exact ⟨f105, rfl, (L82.trans L106), HS198⟩
        · have c154 : ¬ (((rd l1 x110).W) ≠ ((rd l1 0).W)) := c154
          refine gateRwI 37 (x := (((rd l1 x110).W) != ((rd l1 0).W))) (v := false) (by kernel_rfl) (bne_eq_false_iff_eq.mpr (Decidable.of_not_not c154)) ?_
          refine gateRwI 38 (x := (((rd l1 x110).W) != ((rd l1 0).W))) (v := false) (by kernel_rfl) (bne_eq_false_iff_eq.mpr (Decidable.of_not_not c154)) ?_
          refine takeG [8] (n := 8) (fuel := 7) (l' := #[true, true, true, true, true, true, true, true, true, false, false, false, false, false, false, false]) (a' := ⟨#[.slice A2 l1.length c3, iV vf5, uV, uV, (j109 0), uV, (j85 1), (j85 2), uV, .pointer (some ⟨b136, 0, none⟩), .slice A2 l1.length c3, iV (l1.length : Int), .bool false, .slice A2 l1.length c3, iV (l1.length : Int), (j85 3), (j85 4), (j85 5), (j85 6), (j85 7), (j85 8), (j85 9), (j85 10), (j85 11), (j85 12), .slice A2 l1.length c3, iV (l1.length : Int), iV x110, .bool true, .pointer (some ⟨b132, of133 + (x110 : Int).toNat * 3, none⟩), .agg #[iV ((rd l1 x110).W), iV ((rd l1 x110).H), .slice A135 ((rd l1 x110).At).length c135], .pointer (some ⟨b136, 0, none⟩), iV ((rd l1 x110).W), .slice A2 l1.length c3, .pointer (some ⟨b150, of151 + (0 : Int).toNat * 3, none⟩), .pointer (some ⟨b150, of151 + (0 : Int).toNat * 3, none⟩), iV ((rd l1 0).W), .bool false, .bool false, .pointer (some ⟨b136, 1, none⟩), (j109 14), (j109 15), (j109 16), (j109 17), (j109 18), (j109 19), (j109 20), (j109 21), uV, uV, uV, uV, uV, uV, uV, uV, uV, uV, uV, uV, uV, uV], []⟩) rfl (by kernel_rfl) (by kernel_rfl) (by kernel_rfl) (fun ch_ a_ w_ q_ => (fun ch_ a_ w_ q_ => hnp ch_ a_ w_ (hp100 ch_ a_ w_ q_)) ch_ a_ w_ (hp124 ch_ a_ w_ q_)) (Sg.g0 (Sx.of [] (FM.le.refl _) HS145)) ?_
          refine takeGQ 9 [] rfl (by kernel_rfl) (by kernel_rfl) (by kernel_rfl) (by kernel_rfl) (by kernel_rfl) (by kernel_rfl) (fun ch_ a_ w_ q_ => (fun ch_ a_ w_ q_ => hnp ch_ a_ w_ (hp100 ch_ a_ w_ q_)) ch_ a_ w_ (hp124 ch_ a_ w_ q_)) (Sg.g0 (Sx.of [] (FM.le.refl _) HS145)) (fun w_ hw_ => by obtain ⟨g_, hl_, hS_⟩ := hw_.st; exact run_load rfl Try.underlying3 rfl (by kernel_rfl : _ = Value.pointer (some ⟨b136, 1, none⟩)) (hS_.cell 1)) ?_
          refine takeG [10] (n := 6) (fuel := 5) (l' := #[true, true, true, true, true, true, true, true, true, true, true, false, false, false, false, false]) (a' := ⟨#[.slice A2 l1.length c3, iV vf5, uV, uV, (j109 0), uV, (j85 1), (j85 2), uV, .pointer (some ⟨b136, 0, none⟩), .slice A2 l1.length c3, iV (l1.length : Int), .bool false, .slice A2 l1.length c3, iV (l1.length : Int), (j85 3), (j85 4), (j85 5), (j85 6), (j85 7), (j85 8), (j85 9), (j85 10), (j85 11), (j85 12), .slice A2 l1.length c3, iV (l1.length : Int), iV x110, .bool true, .pointer (some ⟨b132, of133 + (x110 : Int).toNat * 3, none⟩), .agg #[iV ((rd l1 x110).W), iV ((rd l1 x110).H), .slice A135 ((rd l1 x110).At).length c135], .pointer (some ⟨b136, 0, none⟩), iV ((rd l1 x110).W), .slice A2 l1.length c3, .pointer (some ⟨b150, of151 + (0 : Int).toNat * 3, none⟩), .pointer (some ⟨b150, of151 + (0 : Int).toNat * 3, none⟩), iV ((rd l1 0).W), .bool false, .bool false, .pointer (some ⟨b136, 1, none⟩), iV ((rd l1 x110).H), .slice A2 l1.length c3, (j109 16), (j109 17), (j109 18), (j109 19), (j109 20), (j109 21), uV, uV, uV, uV, uV, uV, uV, uV, uV, uV, uV, uV, uV, uV], []⟩) rfl (by kernel_rfl) (by kernel_rfl) (by kernel_rfl) (fun ch_ a_ w_ q_ => (fun ch_ a_ w_ q_ => hnp ch_ a_ w_ (hp100 ch_ a_ w_ q_)) ch_ a_ w_ (hp124 ch_ a_ w_ q_)) (Sg.g0 (Sx.of [] (FM.le.refl _) HS145)) ?_
          refine takeGQ 11 [] rfl (by kernel_rfl) (by kernel_rfl) (by kernel_rfl) (by kernel_rfl) (by kernel_rfl) (by kernel_rfl) (fun ch_ a_ w_ q_ => (fun ch_ a_ w_ q_ => hnp ch_ a_ w_ (hp100 ch_ a_ w_ q_)) ch_ a_ w_ (hp124 ch_ a_ w_ q_)) (Sg.g0 (Sx.of [] (FM.le.refl _) HS145)) (fun w_ hw_ => by obtain ⟨g_, hl_, hS_⟩ := hw_.st; exact run_indexE hA152 (sz := 3) rfl Try.underlying27 (by kernel_rfl) (by kernel_rfl : _ = Value.slice A2 l1.length c3) (by kernel_rfl : _ = Value.int .i64 0) (by decide) c146 w_) ?_
          refine takeG [12] (n := 4) (fuel := 3) (l' := #[true, true, true, true, true, true, true, true, true, true, true, true, true, false, false, false]) (a' := ⟨#[.slice A2 l1.length c3, iV vf5, uV, uV, (j109 0), uV, (j85 1), (j85 2), uV, .pointer (some ⟨b136, 0, none⟩), .slice A2 l1.length c3, iV (l1.length : Int), .bool false, .slice A2 l1.length c3, iV (l1.length : Int), (j85 3), (j85 4), (j85 5), (j85 6), (j85 7), (j85 8), (j85 9), (j85 10), (j85 11), (j85 12), .slice A2 l1.length c3, iV (l1.length : Int), iV x110, .bool true, .pointer (some ⟨b132, of133 + (x110 : Int).toNat * 3, none⟩), .agg #[iV ((rd l1 x110).W), iV ((rd l1 x110).H), .slice A135 ((rd l1 x110).At).length c135], .pointer (some ⟨b136, 0, none⟩), iV ((rd l1 x110).W), .slice A2 l1.length c3, .pointer (some ⟨b150, of151 + (0 : Int).toNat * 3, none⟩), .pointer (some ⟨b150, of151 + (0 : Int).toNat * 3, none⟩), iV ((rd l1 0).W), .bool false, .bool false, .pointer (some ⟨b136, 1, none⟩), iV ((rd l1 x110).H), .slice A2 l1.length c3, .pointer (some ⟨b150, of151 + (0 : Int).toNat * 3, none⟩), .pointer (some ⟨b150, of151 + (0 : Int).toNat * 3 + 1, none⟩), (j109 18), (j109 19), (j109 20), (j109 21), uV, uV, uV, uV, uV, uV, uV, uV, uV, uV, uV, uV, uV, uV], []⟩) rfl (by kernel_rfl) (by kernel_rfl) (by kernel_rfl) (fun ch_ a_ w_ q_ => (fun ch_ a_ w_ q_ => hnp ch_ a_ w_ (hp100 ch_ a_ w_ q_)) ch_ a_ w_ (hp124 ch_ a_ w_ q_)) (Sg.g0 (Sx.of [] (FM.le.refl _) HS145)) ?_
          refine takeGQ 13 [] rfl (by kernel_rfl) (by kernel_rfl) (by kernel_rfl) (by kernel_rfl) (by kernel_rfl) (by kernel_rfl) (fun ch_ a_ w_ q_ => (fun ch_ a_ w_ q_ => hnp ch_ a_ w_ (hp100 ch_ a_ w_ q_)) ch_ a_ w_ (hp124 ch_ a_ w_ q_)) (Sg.g0 (Sx.of [] (FM.le.refl _) HS145)) (fun w_ hw_ => by obtain ⟨g_, hl_, hS_⟩ := hw_.st; exact run_load rfl Try.underlying3 rfl (by kernel_rfl : _ = Value.pointer (some ⟨b150, of151 + (0 : Int).toNat * 3 + 1, none⟩)) ((hc149 hl_ hS_) 1 (by decide))) ?_
          refine takeG [14, 15] (n := 2) (fuel := 0) (l' := #[true, true, true, true, true, true, true, true, true, true, true, true, true, true, true, true]) (a' := ⟨#[.slice A2 l1.length c3, iV vf5, uV, uV, (j109 0), uV, (j85 1), (j85 2), uV, .pointer (some ⟨b136, 0, none⟩), .slice A2 l1.length c3, iV (l1.length : Int), .bool false, .slice A2 l1.length c3, iV (l1.length : Int), (j85 3), (j85 4), (j85 5), (j85 6), (j85 7), (j85 8), (j85 9), (j85 10), (j85 11), (j85 12), .slice A2 l1.length c3, iV (l1.length : Int), iV x110, .bool true, .pointer (some ⟨b132, of133 + (x110 : Int).toNat * 3, none⟩), .agg #[iV ((rd l1 x110).W), iV ((rd l1 x110).H), .slice A135 ((rd l1 x110).At).length c135], .pointer (some ⟨b136, 0, none⟩), iV ((rd l1 x110).W), .slice A2 l1.length c3, .pointer (some ⟨b150, of151 + (0 : Int).toNat * 3, none⟩), .pointer (some ⟨b150, of151 + (0 : Int).toNat * 3, none⟩), iV ((rd l1 0).W), .bool false, .bool false, .pointer (some ⟨b136, 1, none⟩), iV ((rd l1 x110).H), .slice A2 l1.length c3, .pointer (some ⟨b150, of151 + (0 : Int).toNat * 3, none⟩), .pointer (some ⟨b150, of151 + (0 : Int).toNat * 3 + 1, none⟩), iV ((rd l1 0).H), .bool (((rd l1 x110).H) != ((rd l1 0).H)), .bool (((rd l1 x110).H) != ((rd l1 0).H)), (j109 21), uV, uV, uV, uV, uV, uV, uV, uV, uV, uV, uV, uV, uV, uV], []⟩) rfl (by kernel_rfl) (by kernel_rfl) (by kernel_rfl) (fun ch_ a_ w_ q_ => (fun ch_ a_ w_ q_ => hnp ch_ a_ w_ (hp100 ch_ a_ w_ q_)) ch_ a_ w_ (hp124 ch_ a_ w_ q_)) (Sg.g0 (Sx.of [] (FM.le.refl _) HS145)) ?_
          refine doneG (by kernel_rfl) ?_ _
          refine hK143 _ _ ?_
          have hq_ := ite_some h; clear h; rcases hq_ with ⟨c158, h⟩ | ⟨c158, h⟩
          · have c158 : ((rd l1 x110).H) ≠ ((rd l1 0).H) := c158
            refine wpRwI 45 (x := (((rd l1 x110).H) != ((rd l1 0).H))) (v := true) (by kernel_rfl) (bne_iff_ne.mpr c158) ?_
            refine wpRwI 46 (x := (((rd l1 x110).H) != ((rd l1 0).H))) (v := true) (by kernel_rfl) (bne_iff_ne.mpr c158) ?_
            refine condT (by kernel_rfl) ?_
            refine wp_seq_k (fun K159 hK160 => ?_)
            refine wp_region_lit ?_
            refine seqS1 (a' := ⟨#[.slice A2 l1.length c3, iV vf5, uV, uV, iV 3, uV, (j85 1), (j85 2), uV, .pointer (some ⟨b136, 0, none⟩), .slice A2 l1.length c3, iV (l1.length : Int), .bool false, .slice A2 l1.length c3, iV (l1.length : Int), (j85 3), (j85 4), (j85 5), (j85 6), (j85 7), (j85 8), (j85 9), (j85 10), (j85 11), (j85 12), .slice A2 l1.length c3, iV (l1.length : Int), iV x110, .bool true, .pointer (some ⟨b132, of133 + (x110 : Int).toNat * 3, none⟩), .agg #[iV ((rd l1 x110).W), iV ((rd l1 x110).H), .slice A135 ((rd l1 x110).At).length c135], .pointer (some ⟨b136, 0, none⟩), iV ((rd l1 x110).W), .slice A2 l1.length c3, .pointer (some ⟨b150, of151 + (0 : Int).toNat * 3, none⟩), .pointer (some ⟨b150, of151 + (0 : Int).toNat * 3, none⟩), iV ((rd l1 0).W), .bool false, .bool false, .pointer (some ⟨b136, 1, none⟩), iV ((rd l1 x110).H), .slice A2 l1.length c3, .pointer (some ⟨b150, of151 + (0 : Int).toNat * 3, none⟩), .pointer (some ⟨b150, of151 + (0 : Int).toNat * 3 + 1, none⟩), iV ((rd l1 0).H), .bool true, .bool true, (j109 21), uV, uV, uV, uV, uV, uV, uV, uV, uV, uV, uV, uV, uV, uV], []⟩) (by kernel_rfl) ?_
            refine wpList_nil ?_
            refine hK160 _ _ ?_
            refine wp_ret ?_
            refine hr122 _ _ ?_
            refine hr98 _ _ ?_
            refine hret _ _ ?_
            refine ends_still (v := Value.int .i64 3) (by kernel_rfl) (by kernel_rfl) ?_
            have HS199 := HS145.drop
            replace h := JR168 _ h
            injection h with h
            subst h
            exact ⟨f105, rfl, (L82.trans L106), HS199⟩
          · have c158 : ¬ (((rd l1 x110).H) ≠ ((rd l1 0).H)) := c158
            refine wpRwI 45 (x := (((rd l1 x110).H) != ((rd l1 0).H))) (v := false) (by kernel_rfl) (bne_eq_false_iff_eq.mpr (Decidable.of_not_not c158)) ?_
            refine wpRwI 46 (x := (((rd l1 x110).H) != ((rd l1 0).H))) (v := false) (by kernel_rfl) (bne_eq_false_iff_eq.mpr (Decidable.of_not_not c158)) ?_
            refine condF (by kernel_rfl) ?_
            refine wp_skip ?_
            refine hn121 _ _ ?_
            refine hK118 _ _ ?_
            refine wp_region_lit ?_
            refine seqS2 (a' := ⟨#[.slice A2 l1.length c3, iV vf5, uV, uV, (j109 0), uV, (j85 1), (j85 2), uV, .pointer (some ⟨b136, 0, none⟩), .slice A2 l1.length c3, iV (l1.length : Int), .bool false, .slice A2 l1.length c3, iV (l1.length : Int), (j85 3), (j85 4), (j85 5), (j85 6), (j85 7), (j85 8), (j85 9), (j85 10), (j85 11), (j85 12), .slice A2 l1.length c3, iV (l1.length : Int), iV (w64 (x110 + 1)), .bool true, .pointer (some ⟨b132, of133 + (x110 : Int).toNat * 3, none⟩), .agg #[iV ((rd l1 x110).W), iV ((rd l1 x110).H), .slice A135 ((rd l1 x110).At).length c135], .pointer (some ⟨b136, 0, none⟩), iV ((rd l1 x110).W), .slice A2 l1.length c3, .pointer (some ⟨b150, of151 + (0 : Int).toNat * 3, none⟩), .pointer (some ⟨b150, of151 + (0 : Int).toNat * 3, none⟩), iV ((rd l1 0).W), .bool false, .bool false, .pointer (some ⟨b136, 1, none⟩), iV ((rd l1 x110).H), .slice A2 l1.length c3, .pointer (some ⟨b150, of151 + (0 : Int).toNat * 3, none⟩), .pointer (some ⟨b150, of151 + (0 : Int).toNat * 3 + 1, none⟩), iV ((rd l1 0).H), .bool false, .bool false, iV (w64 (x110 + 1)), uV, uV, uV, uV, uV, uV, uV, uV, uV, uV, uV, uV, uV, uV], []⟩) (by kernel_rfl) ?_
            refine wpList_nil ?_
            refine hK103 n104 _ _ (Nat.lt_succ_self _) ?_
            have HS170 := HS145.drop
            exact ⟨f105, (w64 (x110 + 1)), (fun i_ => [(j109 0), Value.pointer (some ⟨b136, 0, none⟩), Value.bool true, Value.pointer (some ⟨b132, of133 + (x110 : Int).toNat * 3, none⟩), Value.agg #[.int .i64 ((rd l1 x110).W), .int .i64 ((rd l1 x110).H), .slice A135 ((rd l1 x110).At).length c135], Value.pointer (some ⟨b136, 0, none⟩), Value.int .i64 ((rd l1 x110).W), Value.slice A2 l1.length c3, Value.pointer (some ⟨b150, of151 + (0 : Int).toNat * 3, none⟩), Value.pointer (some ⟨b150, of151 + (0 : Int).toNat * 3, none⟩), Value.int .i64 ((rd l1 0).W), Value.bool false, Value.bool false, Value.pointer (some ⟨b136, 1, none⟩), Value.int .i64 ((rd l1 x110).H), Value.slice A2 l1.length c3, Value.pointer (some ⟨b150, of151 + (0 : Int).toNat * 3, none⟩), Value.pointer (some ⟨b150, of151 + (0 : Int).toNat * 3 + 1, none⟩), Value.int .i64 ((rd l1 0).H), Value.bool false, Value.bool false, Value.int .i64 (w64 (x110 + 1))].getD i_ undef), L106, HS170, h, (by kernel_rfl)⟩
      · have c116 : ¬ (x110 < (l1.length : Int)) := c116
        refine wpRwI 28 (x := (decide (x110 < (l1.length : Int)))) (v := false) (by kernel_rfl) (decide_eq_false c116) ?_
        refine condF (by kernel_rfl) ?_
        refine wp_exit ?_
        refine hx96 _ _ ?_
        exact J167 f105 (fun i_ => [(j109 0), (j109 1), Value.int .i64 x110, Value.bool false, (j109 3), (j109 4), (j109 5), (j109 6), (j109 7), (j109 8), (j109 9), (j109 10), (j109 11), (j109 12), (j109 13), (j109 14), (j109 15), (j109 16), (j109 17), (j109 18), (j109 19), (j109 20), (j109 21)].getD i_ undef) W107 _ L106 h HS108 (by kernel_rfl)
    clear h; have h := hv86; clear hv86
    refine loopK (fun n_ a_ w_ => ∃ (f30 : FM) (x35 : Int) (j34 : Nat → Value), FM.le f f30 ∧ St t w_ f30 (H) ∧ clean_valid.l0 k l1 n_ x35 = some o26 ∧ a_ = ⟨#[.slice A2 l1.length c3, iV vf5, uV, uV, (j34 0), uV, (j34 1), (j34 2), uV, uV, .slice A2 l1.length c3, iV (l1.length : Int), .bool false, .slice A2 l1.length c3, iV (l1.length : Int), iV x35, (j34 3), (j34 4), (j34 5), (j34 6), (j34 7), (j34 8), (j34 9), (j34 10), (j34 11), uV, uV, uV, uV, uV, uV, uV, uV, uV, uV, uV, uV, uV, uV, uV, uV, uV, uV, uV, uV, uV, uV, uV, uV, uV, uV, uV, uV, uV, uV, uV, uV, uV, uV, uV, uV, uV], []⟩) k ⟨f, 0, (fun i_ => [Value.int .i64 0, undef, undef, undef, undef, undef, undef, undef, undef, undef, undef, undef].getD i_ undef), (FM.le.refl _), HS, h, (by kernel_rfl)⟩ ?_
    clear h
    rintro n29 _ W32 ⟨f30, x35, j34, L31, HS33, h, rfl⟩ K27 hK28
    obtain _ | n29 := n29
    · exact nomatch h
    simp only [clean_valid.l0] at h
    refine wp_seq_k (fun K36 hK37 => ?_)
    refine wp_region_lit ?_
    refine seqS1 (a' := ⟨#[.slice A2 l1.length c3, iV vf5, uV, uV, (j34 0), uV, (j34 1), (j34 2), uV, uV, .slice A2 l1.length c3, iV (l1.length : Int), .bool false, .slice A2 l1.length c3, iV (l1.length : Int), iV x35, .bool (decide (x35 < (l1.length : Int))), (j34 4), (j34 5), (j34 6), (j34 7), (j34 8), (j34 9), (j34 10), (j34 11), uV, uV, uV, uV, uV, uV, uV, uV, uV, uV, uV, uV, uV, uV, uV, uV, uV, uV, uV, uV, uV, uV, uV, uV, uV, uV, uV, uV, uV, uV, uV, uV, uV, uV, uV, uV, uV], []⟩) (by kernel_rfl) ?_
    refine wpList_nil ?_
    refine hK37 _ _ ?_
    refine wp_seq_k (fun K38 hK39 => ?_)
    have hq_ := ite_some h; clear h; rcases hq_ with ⟨c41, h⟩ | ⟨c41, h⟩
    · have c41 : x35 < (l1.length : Int) := c41
      refine wpRwI 16 (x := (decide (x35 < (l1.length : Int)))) (v := true) (by kernel_rfl) (decide_eq_true c41) ?_
      refine condT (by kernel_rfl) ?_
      refine wp_skip ?_
      refine hK39 _ _ ?_
      refine wp_seq_k (fun K42 hK43 => ?_)
      refine blockK (fun B44 hx45 hn46 hr47 ho48 hp49 => ?_)
      refine wp_seq_k (fun K51 hK52 => ?_)
      refine wp_region_lit ?_
      have hq_ := guard_some h; clear h; obtain ⟨c53, h⟩ := hq_
      have c53 : 0 ≤ x35 := c53
      obtain ⟨b57, of58, cs54, hA59, hr55, hc56⟩ := (HR4.mono L31).at (i := x35) c53 c41
      obtain ⟨A60, c60, rfl, HR60⟩ := hr55
      refine seqK rfl (does_run (run_indexE hA59 (sz := 3) rfl Try.underlying27 (by kernel_rfl) (by kernel_rfl : _ = Value.slice A2 l1.length c3) (by kernel_rfl : _ = Value.int .i64 x35) c53 c41 W32) ?_)
      refine seqK rfl (does_run (run_loadN (n := 3) rfl Try.underlying34 rfl (by kernel_rfl) (by kernel_rfl : _ = Value.pointer (some ⟨b57, of58 + (x35 : Int).toNat * 3, none⟩)) (cs := [.int .i64 ((rd l1 x35).W), .int .i64 ((rd l1 x35).H), .slice A60 ((rd l1 x35).At).length c60]) rfl (fun j_ hj_ => ((hc56 (FM.le.refl _) HS33) j_ hj_))) ?_)
      refine seqK rfl (does_alloc (z := Value.agg #[.int .i64 0, .int .i64 0, .slice none 0 0]) (cs := #[.int .i64 0, .int .i64 0, .slice none 0 0]) rfl (by kernel_rfl) rfl HS33 ?_)
      intro b61 W62 HS63
      refine seqK rfl (does_store (n := 3) (vs := [.int .i64 ((rd l1 x35).W), .int .i64 ((rd l1 x35).H), .slice A60 ((rd l1 x35).At).length c60]) (cs' := #[.int .i64 ((rd l1 x35).W), .int .i64 ((rd l1 x35).H), .slice A60 ((rd l1 x35).At).length c60]) rfl (by kernel_rfl) (by kernel_rfl : _ = Value.pointer (some ⟨b61, 0, none⟩)) (by kernel_rfl : _ = Value.agg #[.int .i64 ((rd l1 x35).W), .int .i64 ((rd l1 x35).H), .slice A60 ((rd l1 x35).At).length c60]) rfl rfl (by intro u_ hu_; simp only [List.mem_cons, List.not_mem_nil, or_false] at hu_; rcases hu_ with rfl | rfl | rfl <;> rfl) HS63 (Nat.le_of_ble_eq_true rfl) (by kernel_rfl) ?_)
      intro W65 HS66
      refine wpList_nil ?_
      refine hK52 _ _ ?_
      refine wp_seq_k (fun K67 hK68 => ?_)
      refine wp_region_lit ?_
      refine seqK rfl (does_run (run_loadN (n := 3) rfl Try.underlying34 rfl (by kernel_rfl) (by kernel_rfl : _ = Value.pointer (some ⟨b61, 0, none⟩)) (cs := [.int .i64 ((rd l1 x35).W), .int .i64 ((rd l1 x35).H), .slice A60 ((rd l1 x35).At).length c60]) rfl (HS66.cells 0 3 _ rfl)) ?_)
      have hq_ := bind_some h; clear h; obtain ⟨vt69, hc70, h⟩ := hq_
      refine seqK rfl (does_call (f := 63) (args := #[.agg #[.int .i64 ((rd l1 x35).W), .int .i64 ((rd l1 x35).H), .slice A60 ((rd l1 x35).At).length c60]]) (by kernel_rfl) (clean_Check.calls k A60 c60 (rd l1 x35) HS66 HR60 vt69 hc70) ?_)
      rintro _ W73 ⟨f71, rfl, L72, HS74⟩
      refine ⟨_, rfl, ?_⟩
      refine seqS1 (a' := ⟨#[.slice A2 l1.length c3, iV vf5, uV, uV, (j34 0), uV, .pointer (some ⟨b61, 0, none⟩), iV vt69, uV, uV, .slice A2 l1.length c3, iV (l1.length : Int), .bool false, .slice A2 l1.length c3, iV (l1.length : Int), iV x35, .bool true, .pointer (some ⟨b57, of58 + (x35 : Int).toNat * 3, none⟩), .agg #[iV ((rd l1 x35).W), iV ((rd l1 x35).H), .slice A60 ((rd l1 x35).At).length c60], .agg #[iV ((rd l1 x35).W), iV ((rd l1 x35).H), .slice A60 ((rd l1 x35).At).length c60], iV vt69, (j34 8), (j34 9), (j34 10), (j34 11), uV, uV, uV, uV, uV, uV, uV, uV, uV, uV, uV, uV, uV, uV, uV, uV, uV, uV, uV, uV, uV, uV, uV, uV, uV, uV, uV, uV, uV, uV, uV, uV, uV, uV, uV, uV, uV], []⟩) (by kernel_rfl) ?_
      refine wpList_nil ?_
      refine hK68 _ _ ?_
      refine wp_seq_k (fun K75 hK76 => ?_)
      refine wp_region_lit ?_
      refine seqS2 (a' := ⟨#[.slice A2 l1.length c3, iV vf5, uV, uV, (j34 0), uV, .pointer (some ⟨b61, 0, none⟩), iV vt69, uV, uV, .slice A2 l1.length c3, iV (l1.length : Int), .bool false, .slice A2 l1.length c3, iV (l1.length : Int), iV x35, .bool true, .pointer (some ⟨b57, of58 + (x35 : Int).toNat * 3, none⟩), .agg #[iV ((rd l1 x35).W), iV ((rd l1 x35).H), .slice A60 ((rd l1 x35).At).length c60], .agg #[iV ((rd l1 x35).W), iV ((rd l1 x35).H), .slice A60 ((rd l1 x35).At).length c60], iV vt69, iV vt69, .bool (vt69 != 0), (j34 10), (j34 11), uV, uV, uV, uV, uV, uV, uV, uV, uV, uV, uV, uV, uV, uV, uV, uV, uV, uV, uV, uV, uV, uV, uV, uV, uV, uV, uV, uV, uV, uV, uV, uV, uV, uV, uV, uV, uV], []⟩) (by kernel_rfl) ?_
      refine wpList_nil ?_
      refine hK76 _ _ ?_
      have hq_ := ite_some h; clear h; rcases hq_ with ⟨c78, h⟩ | ⟨c78, h⟩
      · have c78 : vt69 ≠ 0 := c78
        refine wpRwI 22 (x := (vt69 != 0)) (v := true) (by kernel_rfl) (bne_iff_ne.mpr c78) ?_
        refine condT (by kernel_rfl) ?_
        refine wp_seq_k (fun K79 hK80 => ?_)
        refine wp_region_lit ?_
        refine seqS2 (a' := ⟨#[.slice A2 l1.length c3, iV vf5, uV, uV, iV vt69, uV, .pointer (some ⟨b61, 0, none⟩), iV vt69, uV, uV, .slice A2 l1.length c3, iV (l1.length : Int), .bool false, .slice A2 l1.length c3, iV (l1.length : Int), iV x35, .bool true, .pointer (some ⟨b57, of58 + (x35 : Int).toNat * 3, none⟩), .agg #[iV ((rd l1 x35).W), iV ((rd l1 x35).H), .slice A60 ((rd l1 x35).At).length c60], .agg #[iV ((rd l1 x35).W), iV ((rd l1 x35).H), .slice A60 ((rd l1 x35).At).length c60], iV vt69, iV vt69, .bool true, iV vt69, (j34 11), uV, uV, uV, uV, uV, uV, uV, uV, uV, uV, uV, uV, uV, uV, uV, uV, uV, uV, uV, uV, uV, uV, uV, uV, uV, uV, uV, uV, uV, uV, uV, uV, uV, uV, uV, uV, uV], []⟩) (by kernel_rfl) ?_
        refine wpList_nil ?_
        refine hK80 _ _ ?_
        refine wp_ret ?_
        refine hr47 _ _ ?_
        refine hr23 _ _ ?_
        refine hret _ _ ?_
        refine ends_still (v := Value.int .i64 vt69) (by kernel_rfl) (by kernel_rfl) ?_
        have HS197 := HS74.drop
        replace h := JR88 _ h
        injection h with h
        subst h
        exact ⟨f71, rfl, (L31.trans L72), HS197⟩
      · have c78 : ¬ (vt69 ≠ 0) := c78
        refine wpRwI 22 (x := (vt69 != 0)) (v := false) (by kernel_rfl) (bne_eq_false_iff_eq.mpr (Decidable.of_not_not c78)) ?_
        refine condF (by kernel_rfl) ?_
        refine wp_skip ?_
        refine hn46 _ _ ?_
        refine hK43 _ _ ?_
        refine wp_region_lit ?_
        refine seqS2 (a' := ⟨#[.slice A2 l1.length c3, iV vf5, uV, uV, (j34 0), uV, .pointer (some ⟨b61, 0, none⟩), iV vt69, uV, uV, .slice A2 l1.length c3, iV (l1.length : Int), .bool false, .slice A2 l1.length c3, iV (l1.length : Int), iV (w64 (x35 + 1)), .bool true, .pointer (some ⟨b57, of58 + (x35 : Int).toNat * 3, none⟩), .agg #[iV ((rd l1 x35).W), iV ((rd l1 x35).H), .slice A60 ((rd l1 x35).At).length c60], .agg #[iV ((rd l1 x35).W), iV ((rd l1 x35).H), .slice A60 ((rd l1 x35).At).length c60], iV vt69, iV vt69, .bool false, (j34 10), iV (w64 (x35 + 1)), uV, uV, uV, uV, uV, uV, uV, uV, uV, uV, uV, uV, uV, uV, uV, uV, uV, uV, uV, uV, uV, uV, uV, uV, uV, uV, uV, uV, uV, uV, uV, uV, uV, uV, uV, uV, uV], []⟩) (by kernel_rfl) ?_
        refine wpList_nil ?_
        refine hK28 n29 _ _ (Nat.lt_succ_self _) ?_
        have HS90 := HS74.drop
        exact ⟨f71, (w64 (x35 + 1)), (fun i_ => [(j34 0), Value.pointer (some ⟨b61, 0, none⟩), Value.int .i64 vt69, Value.bool true, Value.pointer (some ⟨b57, of58 + (x35 : Int).toNat * 3, none⟩), Value.agg #[.int .i64 ((rd l1 x35).W), .int .i64 ((rd l1 x35).H), .slice A60 ((rd l1 x35).At).length c60], Value.agg #[.int .i64 ((rd l1 x35).W), .int .i64 ((rd l1 x35).H), .slice A60 ((rd l1 x35).At).length c60], Value.int .i64 vt69, Value.int .i64 vt69, Value.bool false, (j34 10), Value.int .i64 (w64 (x35 + 1))].getD i_ undef), (L31.trans L72), HS90, h, (by kernel_rfl)⟩
    · have c41 : ¬ (x35 < (l1.length : Int)) := c41
      refine wpRwI 16 (x := (decide (x35 < (l1.length : Int)))) (v := false) (by kernel_rfl) (decide_eq_false c41) ?_
      refine condF (by kernel_rfl) ?_
      refine wp_exit ?_
      refine hx21 _ _ ?_
      exact J87 f30 (fun i_ => [(j34 0), (j34 1), (j34 2), Value.int .i64 x35, Value.bool false, (j34 4), (j34 5), (j34 6), (j34 7), (j34 8), (j34 9), (j34 10), (j34 11)].getD i_ undef) W32 _ L31 h HS33 (by kernel_rfl)

set_option maxRecDepth 100000 in
set_option maxHeartbeats 4000000 in
theorem bound_vague_Quanta.calls (k : Nat)  (a1 : S_Bound) (b2 : S_Bound) {t w : World} {f : FM} {H : List Seg} (HS : St t w f (H)) (r1 : Bool) (h : bound_vague_Quanta k a1 b2 = some r1) :
    Calls Try.prog 42 #[.agg #[.int .i64 a1.Lo, .int .i64 a1.Hi, .bool a1.Unknown], .agg #[.int .i64 b2.Lo, .int .i64 b2.Hi, .bool b2.Unknown]] w (fun e w' => ∃ (g : FM), e = .returned (Value.bool r1) ∧ FM.le f g ∧ St t w' g (H)) := by
  unfold bound_vague_Quanta at h
  refine enter Try.func42 rfl (tm := #[.agg #[iV a1.Lo, iV a1.Hi, .bool a1.Unknown], .agg #[iV b2.Lo, iV b2.Hi, .bool b2.Unknown], uV, uV, uV, uV, uV, uV, uV, uV, uV, uV, uV]) (by kernel_rfl) ?_
  intro B hret hnor hnp
  refine wp_seq_k (fun K3 hK4 => ?_)
  refine wp_region_lit ?_
  refine seqK rfl (does_box (cs := #[.int .i64 a1.Lo, .int .i64 a1.Hi, .bool a1.Unknown]) rfl (by kernel_rfl : _ = Value.agg #[.int .i64 a1.Lo, .int .i64 a1.Hi, .bool a1.Unknown]) rfl HS ?_)
  intro b5 W6 HS7
  refine seqK rfl (does_box (cs := #[.int .i64 b2.Lo, .int .i64 b2.Hi, .bool b2.Unknown]) rfl (by kernel_rfl : _ = Value.agg #[.int .i64 b2.Lo, .int .i64 b2.Hi, .bool b2.Unknown]) rfl HS7 ?_)
  intro b9 W10 HS11
  refine seqS1 (a' := ⟨#[.agg #[iV a1.Lo, iV a1.Hi, .bool a1.Unknown], .agg #[iV b2.Lo, iV b2.Hi, .bool b2.Unknown], .pointer (some ⟨b5, 0, none⟩), .pointer (some ⟨b9, 0, none⟩), .bool false, uV, uV, uV, uV, uV, uV, uV, uV], []⟩) (by kernel_rfl) ?_
  refine wpList_nil ?_
  refine hK4 _ _ ?_
  refine wp_seq_k (fun K13 hK14 => ?_)
  refine wp_region_lit ?_
  refine seqK rfl (does_run (run_loadN (n := 3) rfl Try.underlying44 rfl (by kernel_rfl) (by kernel_rfl : _ = Value.pointer (some ⟨b5, 0, none⟩)) (cs := [.int .i64 a1.Lo, .int .i64 a1.Hi, .bool a1.Unknown]) rfl (HS11.u1.cells 0 3 _ rfl)) ?_)
  have hq_ := bind_some h; clear h; obtain ⟨vt15, hc16, h⟩ := hq_
  refine seqK rfl (does_call (f := 45) (args := #[.agg #[.int .i64 a1.Lo, .int .i64 a1.Hi, .bool a1.Unknown]]) (by kernel_rfl) (bound_Norm_Quanta.calls k a1 HS11 vt15 hc16) ?_)
  rintro _ W19 ⟨f17, rfl, L18, HS20⟩
  refine ⟨_, rfl, ?_⟩
  refine seqS2 (a' := ⟨#[.agg #[iV a1.Lo, iV a1.Hi, .bool a1.Unknown], .agg #[iV b2.Lo, iV b2.Hi, .bool b2.Unknown], .pointer (some ⟨b5, 0, none⟩), .pointer (some ⟨b9, 0, none⟩), .bool false, .agg #[iV a1.Lo, iV a1.Hi, .bool a1.Unknown], .agg #[iV vt15.Lo, iV vt15.Hi, .bool vt15.Unknown], .bool vt15.Unknown, .bool vt15.Unknown, uV, uV, uV, uV], []⟩) (by kernel_rfl) ?_
  have hq_ := ite_some h; clear h; rcases hq_ with ⟨c21, h⟩ | ⟨c21, h⟩
  · have c21 : vt15.Unknown = true := c21
    refine seqRwI 7 (x := vt15.Unknown) (v := true) (by kernel_rfl) c21 ?_
    refine seqRwI 8 (x := vt15.Unknown) (v := true) (by kernel_rfl) c21 ?_
    refine seqS5 (a' := ⟨#[.agg #[iV a1.Lo, iV a1.Hi, .bool a1.Unknown], .agg #[iV b2.Lo, iV b2.Hi, .bool b2.Unknown], .pointer (some ⟨b5, 0, none⟩), .pointer (some ⟨b9, 0, none⟩), .bool true, .agg #[iV a1.Lo, iV a1.Hi, .bool a1.Unknown], .agg #[iV vt15.Lo, iV vt15.Hi, .bool vt15.Unknown], .bool true, .bool true, uV, uV, uV, .bool true], []⟩) (by kernel_rfl) ?_
    refine wpList_nil ?_
    refine hK14 _ _ ?_
    refine wp_ret ?_
    refine hret _ _ ?_
    refine ends_still (v := Value.bool true) (by kernel_rfl) (by kernel_rfl) ?_
    have HS28 := HS20.drop
    have HS29 := HS28.drop
    injection h with h
    subst h
    exact ⟨f17, rfl, L18, HS29⟩
  · have c21 : ¬ (vt15.Unknown = true) := c21
    refine seqRwI 7 (x := vt15.Unknown) (v := false) (by kernel_rfl) (Bool.eq_false_iff.mpr c21) ?_
    refine seqRwI 8 (x := vt15.Unknown) (v := false) (by kernel_rfl) (Bool.eq_false_iff.mpr c21) ?_
    refine seqG (by kernel_rfl) (does_run (run_loadN (n := 3) rfl Try.underlying44 rfl (by kernel_rfl) (by kernel_rfl : _ = Value.pointer (some ⟨b9, 0, none⟩)) (cs := [.int .i64 b2.Lo, .int .i64 b2.Hi, .bool b2.Unknown]) rfl (HS20.cells 0 3 _ rfl)) ?_)
    have hq_ := bind_some h; clear h; obtain ⟨vt22, hc23, h⟩ := hq_
    refine seqG (by kernel_rfl) (does_call (f := 45) (args := #[.agg #[.int .i64 b2.Lo, .int .i64 b2.Hi, .bool b2.Unknown]]) (by kernel_rfl) (bound_Norm_Quanta.calls k b2 HS20 vt22 hc23) ?_)
    rintro _ W26 ⟨f24, rfl, L25, HS27⟩
    refine ⟨_, rfl, ?_⟩
    refine seqS3 (a' := ⟨#[.agg #[iV a1.Lo, iV a1.Hi, .bool a1.Unknown], .agg #[iV b2.Lo, iV b2.Hi, .bool b2.Unknown], .pointer (some ⟨b5, 0, none⟩), .pointer (some ⟨b9, 0, none⟩), .bool vt22.Unknown, .agg #[iV a1.Lo, iV a1.Hi, .bool a1.Unknown], .agg #[iV vt15.Lo, iV vt15.Hi, .bool vt15.Unknown], .bool false, .bool false, .agg #[iV b2.Lo, iV b2.Hi, .bool b2.Unknown], .agg #[iV vt22.Lo, iV vt22.Hi, .bool vt22.Unknown], .bool vt22.Unknown, .bool vt22.Unknown], []⟩) (by kernel_rfl) ?_
    refine wpList_nil ?_
    refine hK14 _ _ ?_
    refine wp_ret ?_
    refine hret _ _ ?_
    refine ends_still (v := Value.bool vt22.Unknown) (by kernel_rfl) (by kernel_rfl) ?_
    have HS30 := HS27.drop
    have HS31 := HS30.drop
    injection h with h
    subst h
    exact ⟨f24, rfl, (L18.trans L25), HS31⟩

set_option maxRecDepth 100000 in
set_option maxHeartbeats 4000000 in
theorem bound_Has_Quanta.calls (k : Nat)  (b1 : S_Bound) (v2 : Int) {t w : World} {f : FM} {H : List Seg} (HS : St t w f (H)) (r1 : Bool) (h : bound_Has_Quanta k b1 v2 = some r1) :
    Calls Try.prog 20 #[.agg #[.int .i64 b1.Lo, .int .i64 b1.Hi, .bool b1.Unknown], .int .i64 v2] w (fun e w' => ∃ (g : FM), e = .returned (Value.bool r1) ∧ FM.le f g ∧ St t w' g (H)) := by
  unfold bound_Has_Quanta at h
  refine enter Try.func20 rfl (tm := #[.agg #[iV b1.Lo, iV b1.Hi, .bool b1.Unknown], iV v2, uV, uV, uV, uV, uV, uV, uV, uV, uV, uV, uV, uV, uV, uV, uV, uV, uV, uV]) (by kernel_rfl) ?_
  intro B hret hnor hnp
  refine wp_seq_k (fun K3 hK4 => ?_)
  refine wp_region_lit ?_
  refine seqK rfl (does_box (cs := #[.int .i64 b1.Lo, .int .i64 b1.Hi, .bool b1.Unknown]) rfl (by kernel_rfl : _ = Value.agg #[.int .i64 b1.Lo, .int .i64 b1.Hi, .bool b1.Unknown]) rfl HS ?_)
  intro b5 W6 HS7
  refine seqS1 (a' := ⟨#[.agg #[iV b1.Lo, iV b1.Hi, .bool b1.Unknown], iV v2, .pointer (some ⟨b5, 0, none⟩), uV, .bool false, uV, uV, uV, uV, uV, uV, uV, uV, uV, uV, uV, uV, uV, uV, uV], []⟩) (by kernel_rfl) ?_
  refine wpList_nil ?_
  refine hK4 _ _ ?_
  refine wp_seq_k (fun K9 hK10 => ?_)
  refine wp_region_lit ?_
  refine seqK rfl (does_run (run_loadN (n := 3) rfl Try.underlying44 rfl (by kernel_rfl) (by kernel_rfl : _ = Value.pointer (some ⟨b5, 0, none⟩)) (cs := [.int .i64 b1.Lo, .int .i64 b1.Hi, .bool b1.Unknown]) rfl (HS7.cells 0 3 _ rfl)) ?_)
  refine seqK rfl (does_run (run_loadN (n := 3) rfl Try.underlying44 rfl (by kernel_rfl) (by kernel_rfl : _ = Value.pointer (some ⟨b5, 0, none⟩)) (cs := [.int .i64 b1.Lo, .int .i64 b1.Hi, .bool b1.Unknown]) rfl (HS7.cells 0 3 _ rfl)) ?_)
  have hq_ := bind_some h; clear h; obtain ⟨vt11, hc12, h⟩ := hq_
  refine seqK rfl (does_call (f := 42) (args := #[.agg #[.int .i64 b1.Lo, .int .i64 b1.Hi, .bool b1.Unknown], .agg #[.int .i64 b1.Lo, .int .i64 b1.Hi, .bool b1.Unknown]]) (by kernel_rfl) (bound_vague_Quanta.calls k b1 b1 HS7 vt11 hc12) ?_)
  rintro _ W15 ⟨f13, rfl, L14, HS16⟩
  refine ⟨_, rfl, ?_⟩
  refine seqS1 (a' := ⟨#[.agg #[iV b1.Lo, iV b1.Hi, .bool b1.Unknown], iV v2, .pointer (some ⟨b5, 0, none⟩), uV, .bool false, .agg #[iV b1.Lo, iV b1.Hi, .bool b1.Unknown], .agg #[iV b1.Lo, iV b1.Hi, .bool b1.Unknown], .bool vt11, .bool vt11, uV, uV, uV, uV, uV, uV, uV, uV, uV, uV, uV], []⟩) (by kernel_rfl) ?_
  have hq_ := ite_some h; clear h; rcases hq_ with ⟨c17, h⟩ | ⟨c17, h⟩
  · have c17 : vt11 = true := c17
    refine seqRwI 7 (x := vt11) (v := true) (by kernel_rfl) c17 ?_
    refine seqRwI 8 (x := vt11) (v := true) (by kernel_rfl) c17 ?_
    refine seqS12 (a' := ⟨#[.agg #[iV b1.Lo, iV b1.Hi, .bool b1.Unknown], iV v2, .pointer (some ⟨b5, 0, none⟩), uV, .bool true, .agg #[iV b1.Lo, iV b1.Hi, .bool b1.Unknown], .agg #[iV b1.Lo, iV b1.Hi, .bool b1.Unknown], .bool true, .bool true, uV, uV, uV, uV, uV, uV, uV, uV, uV, uV, .bool true], []⟩) (by kernel_rfl) ?_
    refine wpList_nil ?_
    refine hK10 _ _ ?_
    refine wp_ret ?_
    refine hret _ _ ?_
    refine ends_still (v := Value.bool true) (by kernel_rfl) (by kernel_rfl) ?_
    have HS19 := HS16.drop
    injection h with h
    subst h
    exact ⟨f13, rfl, L14, HS19⟩
  · have c17 : ¬ (vt11 = true) := c17
    refine seqRwI 7 (x := vt11) (v := false) (by kernel_rfl) (Bool.eq_false_iff.mpr c17) ?_
    refine seqRwI 8 (x := vt11) (v := false) (by kernel_rfl) (Bool.eq_false_iff.mpr c17) ?_
    refine seqL1 (by kernel_rfl) ?_
    refine seqG (by kernel_rfl) (does_run (run_load rfl Try.underlying42 rfl (by kernel_rfl : _ = Value.pointer (some ⟨b5, 0, none⟩)) (HS16.cell 0)) ?_)
    refine seqS3 (a' := ⟨#[.agg #[iV b1.Lo, iV b1.Hi, .bool b1.Unknown], iV v2, .pointer (some ⟨b5, 0, none⟩), uV, .bool false, .agg #[iV b1.Lo, iV b1.Hi, .bool b1.Unknown], .agg #[iV b1.Lo, iV b1.Hi, .bool b1.Unknown], .bool false, .bool false, .pointer (some ⟨b5, 0, none⟩), iV b1.Lo, iV v2, .bool (decide (b1.Lo ≤ v2)), .bool (decide (b1.Lo ≤ v2)), uV, uV, uV, uV, uV, uV], []⟩) (by kernel_rfl) ?_
    have hq_ := ite_some h; clear h; rcases hq_ with ⟨c18, h⟩ | ⟨c18, h⟩
    · have c18 : b1.Lo ≤ v2 := c18
      refine seqRwI 12 (x := (decide (b1.Lo ≤ v2))) (v := true) (by kernel_rfl) (decide_eq_true c18) ?_
      refine seqRwI 13 (x := (decide (b1.Lo ≤ v2))) (v := true) (by kernel_rfl) (decide_eq_true c18) ?_
      refine seqL2 (by kernel_rfl) ?_
      refine seqG (by kernel_rfl) (does_run (run_load rfl Try.underlying42 rfl (by kernel_rfl : _ = Value.pointer (some ⟨b5, 1, none⟩)) (HS16.cell 1)) ?_)
      refine seqS4 (a' := ⟨#[.agg #[iV b1.Lo, iV b1.Hi, .bool b1.Unknown], iV v2, .pointer (some ⟨b5, 0, none⟩), uV, .bool (decide (v2 ≤ b1.Hi)), .agg #[iV b1.Lo, iV b1.Hi, .bool b1.Unknown], .agg #[iV b1.Lo, iV b1.Hi, .bool b1.Unknown], .bool false, .bool false, .pointer (some ⟨b5, 0, none⟩), iV b1.Lo, iV v2, .bool true, .bool true, iV v2, .pointer (some ⟨b5, 1, none⟩), iV b1.Hi, .bool (decide (v2 ≤ b1.Hi)), .bool (decide (v2 ≤ b1.Hi)), .bool (decide (v2 ≤ b1.Hi))], []⟩) (by kernel_rfl) ?_
      refine wpList_nil ?_
      refine hK10 _ _ ?_
      refine wp_ret ?_
      refine hret _ _ ?_
      refine ends_still (v := Value.bool (decide (v2 ≤ b1.Hi))) (by kernel_rfl) (by kernel_rfl) ?_
      have HS20 := HS16.drop
      injection h with h
      subst h
      exact ⟨f13, rfl, L14, HS20⟩
    · have c18 : ¬ (b1.Lo ≤ v2) := c18
      refine seqRwI 12 (x := (decide (b1.Lo ≤ v2))) (v := false) (by kernel_rfl) (decide_eq_false c18) ?_
      refine seqRwI 13 (x := (decide (b1.Lo ≤ v2))) (v := false) (by kernel_rfl) (decide_eq_false c18) ?_
      refine seqS7 (a' := ⟨#[.agg #[iV b1.Lo, iV b1.Hi, .bool b1.Unknown], iV v2, .pointer (some ⟨b5, 0, none⟩), uV, .bool false, .agg #[iV b1.Lo, iV b1.Hi, .bool b1.Unknown], .agg #[iV b1.Lo, iV b1.Hi, .bool b1.Unknown], .bool false, .bool false, .pointer (some ⟨b5, 0, none⟩), iV b1.Lo, iV v2, .bool false, .bool false, uV, uV, uV, uV, .bool false, .bool false], []⟩) (by kernel_rfl) ?_
      refine wpList_nil ?_
      refine hK10 _ _ ?_
      refine wp_ret ?_
      refine hret _ _ ?_
      refine ends_still (v := Value.bool false) (by kernel_rfl) (by kernel_rfl) ?_
      have HS21 := HS16.drop
      injection h with h
      subst h
      exact ⟨f13, rfl, L14, HS21⟩

set_option maxRecDepth 100000 in
set_option maxHeartbeats 4000000 in
theorem bound_Votes_Quanta.calls (k : Nat) (A2 : Option Addr) (c3 : Nat) (l1 : List S_Bound) (v5 : Int) {t w : World} {f : FM} {H : List Seg} (HS : St t w f (H)) (HR4 : SlR ty_Bound f A2 c3 l1) (r1 : Int) (h : bound_Votes_Quanta k l1 v5 = some r1) :
    Calls Try.prog 77 #[.slice A2 l1.length c3, .int .i64 v5] w (fun e w' => ∃ (g : FM), e = .returned (Value.int .i64 r1) ∧ FM.le f g ∧ St t w' g (H)) := by
  unfold bound_Votes_Quanta at h
  refine enter Try.func77 rfl (tm := #[.slice A2 l1.length c3, iV v5, uV, uV, uV, uV, uV, uV, uV, uV, uV, uV, uV, uV, uV, uV, uV, uV, uV, uV, uV, uV, uV, uV, uV, uV, uV]) (by kernel_rfl) ?_
  intro B hret hnor hnp
  refine wp_seq_k (fun K6 hK7 => ?_)
  refine wp_region_lit ?_
  refine seqS1 (a' := ⟨#[.slice A2 l1.length c3, iV v5, uV, uV, iV 0, uV, uV, uV, uV, uV, uV, uV, uV, uV, uV, uV, uV, uV, uV, uV, uV, uV, uV, uV, uV, uV, uV], []⟩) (by kernel_rfl) ?_
  refine wpList_nil ?_
  refine hK7 _ _ ?_
  refine wp_seq_k (fun K8 hK9 => ?_)
  refine wp_region_lit ?_
  refine seqS1 (a' := ⟨#[.slice A2 l1.length c3, iV v5, uV, uV, iV 0, iV 0, uV, uV, uV, uV, uV, uV, uV, uV, uV, uV, uV, uV, uV, uV, uV, uV, uV, uV, uV, uV, uV], []⟩) (by kernel_rfl) ?_
  refine wpList_nil ?_
  refine hK9 _ _ ?_
  refine wp_seq_k (fun K10 hK11 => ?_)
  refine wp_seq_k (fun K12 hK13 => ?_)
  refine wp_region_lit ?_
  refine seqS3 (a' := ⟨#[.slice A2 l1.length c3, iV v5, uV, uV, iV 0, iV 0, uV, uV, .slice A2 l1.length c3, iV (l1.length : Int), iV 0, uV, uV, uV, uV, uV, uV, uV, uV, uV, uV, uV, uV, uV, uV, uV, uV], []⟩) (by kernel_rfl) ?_
  refine wpList_nil ?_
  refine hK13 _ _ ?_
  refine blockK (fun B14 hx15 hn16 hr17 ho18 hp19 => ?_)
  have hq_ := bind_some h; clear h; obtain ⟨o20, hv84, h⟩ := hq_
  have J85 : ∀ (f78 : FM) (n83 : Int) (j82 : Nat → Value) (W80 : World) (a_ : Act), FM.le f f78 → some (n83) = some o20 → St t W80 f78 (H) → a_ = ⟨#[.slice A2 l1.length c3, iV v5, uV, uV, iV 0, iV n83, uV, (j82 0), .slice A2 l1.length c3, iV (l1.length : Int), (j82 1), (j82 2), (j82 3), (j82 4), (j82 5), (j82 6), (j82 7), (j82 8), (j82 9), (j82 10), (j82 11), (j82 12), (j82 13), (j82 14), (j82 15), (j82 16), uV], []⟩ → K10 a_ W80 := by
    intro f78 n83 j82 W80 a_ L79 hj86 HS81  hfr_; subst hfr_
    injection hj86 with hj86; subst hj86; try dsimp only at h
    refine hK11 _ _ ?_
    refine wp_seq_k (fun K90 hK91 => ?_)
    refine wp_region_lit ?_
    refine seqS2 (a' := ⟨#[.slice A2 l1.length c3, iV v5, uV, uV, iV n83, iV n83, uV, (j82 0), .slice A2 l1.length c3, iV (l1.length : Int), (j82 1), (j82 2), (j82 3), (j82 4), (j82 5), (j82 6), (j82 7), (j82 8), (j82 9), (j82 10), (j82 11), (j82 12), (j82 13), (j82 14), (j82 15), (j82 16), iV n83], []⟩) (by kernel_rfl) ?_
    refine wpList_nil ?_
    refine hK91 _ _ ?_
    refine wp_ret ?_
    refine hret _ _ ?_
    refine ends_still (v := Value.int .i64 n83) (by kernel_rfl) (by kernel_rfl) ?_
    injection h with h
    subst h
    exact ⟨f78, rfl, L79, HS81⟩
  clear h; have h := hv84; clear hv84
  refine loopK (fun n_ a_ w_ => ∃ (f24 : FM) (n29 : Int) (x30 : Int) (j28 : Nat → Value), FM.le f f24 ∧ St t w_ f24 (H) ∧ bound_Votes_Quanta.l0 k l1 v5 n_ n29 x30 = some o20 ∧ a_ = ⟨#[.slice A2 l1.length c3, iV v5, uV, uV, iV 0, iV n29, uV, (j28 0), .slice A2 l1.length c3, iV (l1.length : Int), iV x30, (j28 1), (j28 2), (j28 3), (j28 4), (j28 5), (j28 6), (j28 7), (j28 8), (j28 9), (j28 10), (j28 11), (j28 12), (j28 13), (j28 14), (j28 15), uV], []⟩) k ⟨f, 0, 0, (fun i_ => [undef, undef, undef, undef, undef, undef, undef, undef, undef, undef, undef, undef, undef, undef, undef, undef].getD i_ undef), (FM.le.refl _), HS, h, (by kernel_rfl)⟩ ?_
  clear h
  rintro n23 _ W26 ⟨f24, n29, x30, j28, L25, HS27, h, rfl⟩ K21 hK22
  obtain _ | n23 := n23
  · exact nomatch h
  simp only [bound_Votes_Quanta.l0] at h
  refine wp_seq_k (fun K31 hK32 => ?_)
  refine wp_region_lit ?_
  refine seqS1 (a' := ⟨#[.slice A2 l1.length c3, iV v5, uV, uV, iV 0, iV n29, uV, (j28 0), .slice A2 l1.length c3, iV (l1.length : Int), iV x30, .bool (decide (x30 < (l1.length : Int))), (j28 2), (j28 3), (j28 4), (j28 5), (j28 6), (j28 7), (j28 8), (j28 9), (j28 10), (j28 11), (j28 12), (j28 13), (j28 14), (j28 15), uV], []⟩) (by kernel_rfl) ?_
  refine wpList_nil ?_
  refine hK32 _ _ ?_
  refine wp_seq_k (fun K33 hK34 => ?_)
  have hq_ := ite_some h; clear h; rcases hq_ with ⟨c36, h⟩ | ⟨c36, h⟩
  · have c36 : x30 < (l1.length : Int) := c36
    refine wpRwI 11 (x := (decide (x30 < (l1.length : Int)))) (v := true) (by kernel_rfl) (decide_eq_true c36) ?_
    refine condT (by kernel_rfl) ?_
    refine wp_skip ?_
    refine hK34 _ _ ?_
    refine wp_seq_k (fun K37 hK38 => ?_)
    refine blockK (fun B39 hx40 hn41 hr42 ho43 hp44 => ?_)
    refine wp_seq_k (fun K46 hK47 => ?_)
    refine wp_region_lit ?_
    have hq_ := guard_some h; clear h; obtain ⟨c48, h⟩ := hq_
    have c48 : 0 ≤ x30 := c48
    obtain ⟨b52, of53, cs49, hA54, hr50, hc51⟩ := (HR4.mono L25).at (i := x30) c48 c36
    obtain rfl := hr50
    refine seqK rfl (does_run (run_indexE hA54 (sz := 3) rfl Try.underlying32 (by kernel_rfl) (by kernel_rfl : _ = Value.slice A2 l1.length c3) (by kernel_rfl : _ = Value.int .i64 x30) c48 c36 W26) ?_)
    refine seqK rfl (does_run (run_loadN (n := 3) rfl Try.underlying44 rfl (by kernel_rfl) (by kernel_rfl : _ = Value.pointer (some ⟨b52, of53 + (x30 : Int).toNat * 3, none⟩)) (cs := [.int .i64 ((rd l1 x30).Lo), .int .i64 ((rd l1 x30).Hi), .bool ((rd l1 x30).Unknown)]) rfl (fun j_ hj_ => ((hc51 (FM.le.refl _) HS27) j_ hj_))) ?_)
    refine seqK rfl (does_alloc (z := Value.agg #[.int .i64 0, .int .i64 0, .bool false]) (cs := #[.int .i64 0, .int .i64 0, .bool false]) rfl (by kernel_rfl) rfl HS27 ?_)
    intro b55 W56 HS57
    refine seqK rfl (does_store (n := 3) (vs := [.int .i64 ((rd l1 x30).Lo), .int .i64 ((rd l1 x30).Hi), .bool ((rd l1 x30).Unknown)]) (cs' := #[.int .i64 ((rd l1 x30).Lo), .int .i64 ((rd l1 x30).Hi), .bool ((rd l1 x30).Unknown)]) rfl (by kernel_rfl) (by kernel_rfl : _ = Value.pointer (some ⟨b55, 0, none⟩)) (by kernel_rfl : _ = Value.agg #[.int .i64 ((rd l1 x30).Lo), .int .i64 ((rd l1 x30).Hi), .bool ((rd l1 x30).Unknown)]) rfl rfl (by intro u_ hu_; simp only [List.mem_cons, List.not_mem_nil, or_false] at hu_; rcases hu_ with rfl | rfl | rfl <;> rfl) HS57 (Nat.le_of_ble_eq_true rfl) (by kernel_rfl) ?_)
    intro W59 HS60
    refine wpList_nil ?_
    refine hK47 _ _ ?_
    refine wp_seq_k (fun K61 hK62 => ?_)
    refine wp_region_lit ?_
    refine seqK rfl (does_run (run_loadN (n := 3) rfl Try.underlying44 rfl (by kernel_rfl) (by kernel_rfl : _ = Value.pointer (some ⟨b55, 0, none⟩)) (cs := [.int .i64 ((rd l1 x30).Lo), .int .i64 ((rd l1 x30).Hi), .bool ((rd l1 x30).Unknown)]) rfl (HS60.cells 0 3 _ rfl)) ?_)
    refine seqK rfl (does_run (run_loadN (n := 3) rfl Try.underlying44 rfl (by kernel_rfl) (by kernel_rfl : _ = Value.pointer (some ⟨b55, 0, none⟩)) (cs := [.int .i64 ((rd l1 x30).Lo), .int .i64 ((rd l1 x30).Hi), .bool ((rd l1 x30).Unknown)]) rfl (HS60.cells 0 3 _ rfl)) ?_)
    have hq_ := bind_some h; clear h; obtain ⟨vt63, hc64, h⟩ := hq_
    refine seqK rfl (does_call (f := 42) (args := #[.agg #[.int .i64 ((rd l1 x30).Lo), .int .i64 ((rd l1 x30).Hi), .bool ((rd l1 x30).Unknown)], .agg #[.int .i64 ((rd l1 x30).Lo), .int .i64 ((rd l1 x30).Hi), .bool ((rd l1 x30).Unknown)]]) (by kernel_rfl) (bound_vague_Quanta.calls k (rd l1 x30) (rd l1 x30) HS60 vt63 hc64) ?_)
    rintro _ W67 ⟨f65, rfl, L66, HS68⟩
    refine ⟨_, rfl, ?_⟩
    refine seqS2 (a' := ⟨#[.slice A2 l1.length c3, iV v5, uV, uV, iV 0, iV n29, uV, .pointer (some ⟨b55, 0, none⟩), .slice A2 l1.length c3, iV (l1.length : Int), iV x30, .bool true, .pointer (some ⟨b52, of53 + (x30 : Int).toNat * 3, none⟩), .agg #[iV ((rd l1 x30).Lo), iV ((rd l1 x30).Hi), .bool ((rd l1 x30).Unknown)], .agg #[iV ((rd l1 x30).Lo), iV ((rd l1 x30).Hi), .bool ((rd l1 x30).Unknown)], .agg #[iV ((rd l1 x30).Lo), iV ((rd l1 x30).Hi), .bool ((rd l1 x30).Unknown)], .bool vt63, .bool (!vt63), .bool (!vt63), (j28 9), (j28 10), (j28 11), (j28 12), (j28 13), (j28 14), (j28 15), uV], []⟩) (by kernel_rfl) ?_
    have hq_ := ite_some h; clear h; rcases hq_ with ⟨c69, h⟩ | ⟨c69, h⟩
    · have c69 : ¬ (vt63 = true) := c69
      refine seqRwI 17 (x := (!vt63)) (v := true) (by kernel_rfl) (congrArg (fun b_ => !b_) (show vt63 = false from (Bool.eq_false_iff.mpr c69)) : (!vt63) = true) ?_
      refine seqRwI 18 (x := (!vt63)) (v := true) (by kernel_rfl) (congrArg (fun b_ => !b_) (show vt63 = false from (Bool.eq_false_iff.mpr c69)) : (!vt63) = true) ?_
      refine seqG (by kernel_rfl) (does_run (run_loadN (n := 3) rfl Try.underlying44 rfl (by kernel_rfl) (by kernel_rfl : _ = Value.pointer (some ⟨b55, 0, none⟩)) (cs := [.int .i64 ((rd l1 x30).Lo), .int .i64 ((rd l1 x30).Hi), .bool ((rd l1 x30).Unknown)]) rfl (HS68.cells 0 3 _ rfl)) ?_)
      have hq_ := bind_some h; clear h; obtain ⟨vt70, hc71, h⟩ := hq_
      refine seqL1 (by kernel_rfl) ?_
      refine seqG (by kernel_rfl) (does_call (f := 20) (args := #[.agg #[.int .i64 ((rd l1 x30).Lo), .int .i64 ((rd l1 x30).Hi), .bool ((rd l1 x30).Unknown)], .int .i64 v5]) (by kernel_rfl) (bound_Has_Quanta.calls k (rd l1 x30) v5 HS68 vt70 hc71) ?_)
      rintro _ W74 ⟨f72, rfl, L73, HS75⟩
      refine ⟨_, rfl, ?_⟩
      refine seqS1 (a' := ⟨#[.slice A2 l1.length c3, iV v5, uV, uV, iV 0, iV n29, uV, .pointer (some ⟨b55, 0, none⟩), .slice A2 l1.length c3, iV (l1.length : Int), iV x30, .bool true, .pointer (some ⟨b52, of53 + (x30 : Int).toNat * 3, none⟩), .agg #[iV ((rd l1 x30).Lo), iV ((rd l1 x30).Hi), .bool ((rd l1 x30).Unknown)], .agg #[iV ((rd l1 x30).Lo), iV ((rd l1 x30).Hi), .bool ((rd l1 x30).Unknown)], .agg #[iV ((rd l1 x30).Lo), iV ((rd l1 x30).Hi), .bool ((rd l1 x30).Unknown)], .bool vt63, .bool true, .bool true, .agg #[iV ((rd l1 x30).Lo), iV ((rd l1 x30).Hi), .bool ((rd l1 x30).Unknown)], iV v5, .bool vt70, .bool vt70, (j28 13), (j28 14), (j28 15), uV], []⟩) (by kernel_rfl) ?_
      refine wpList_nil ?_
      refine hK62 _ _ ?_
      have hq_ := ite_some h; clear h; rcases hq_ with ⟨c77, h⟩ | ⟨c77, h⟩
      · have c77 : vt70 = true := c77
        refine wpRwI 21 (x := vt70) (v := true) (by kernel_rfl) c77 ?_
        refine wpRwI 22 (x := vt70) (v := true) (by kernel_rfl) c77 ?_
        refine condT (by kernel_rfl) ?_
        refine wp_region_lit ?_
        refine seqS3 (a' := ⟨#[.slice A2 l1.length c3, iV v5, uV, uV, iV 0, iV (w64 (n29 + 1)), uV, .pointer (some ⟨b55, 0, none⟩), .slice A2 l1.length c3, iV (l1.length : Int), iV x30, .bool true, .pointer (some ⟨b52, of53 + (x30 : Int).toNat * 3, none⟩), .agg #[iV ((rd l1 x30).Lo), iV ((rd l1 x30).Hi), .bool ((rd l1 x30).Unknown)], .agg #[iV ((rd l1 x30).Lo), iV ((rd l1 x30).Hi), .bool ((rd l1 x30).Unknown)], .agg #[iV ((rd l1 x30).Lo), iV ((rd l1 x30).Hi), .bool ((rd l1 x30).Unknown)], .bool vt63, .bool true, .bool true, .agg #[iV ((rd l1 x30).Lo), iV ((rd l1 x30).Hi), .bool ((rd l1 x30).Unknown)], iV v5, .bool true, .bool true, iV n29, iV (w64 (n29 + 1)), (j28 15), uV], []⟩) (by kernel_rfl) ?_
        refine wpList_nil ?_
        refine hn41 _ _ ?_
        refine hK38 _ _ ?_
        refine wp_region_lit ?_
        refine seqS2 (a' := ⟨#[.slice A2 l1.length c3, iV v5, uV, uV, iV 0, iV (w64 (n29 + 1)), uV, .pointer (some ⟨b55, 0, none⟩), .slice A2 l1.length c3, iV (l1.length : Int), iV (w64 (x30 + 1)), .bool true, .pointer (some ⟨b52, of53 + (x30 : Int).toNat * 3, none⟩), .agg #[iV ((rd l1 x30).Lo), iV ((rd l1 x30).Hi), .bool ((rd l1 x30).Unknown)], .agg #[iV ((rd l1 x30).Lo), iV ((rd l1 x30).Hi), .bool ((rd l1 x30).Unknown)], .agg #[iV ((rd l1 x30).Lo), iV ((rd l1 x30).Hi), .bool ((rd l1 x30).Unknown)], .bool vt63, .bool true, .bool true, .agg #[iV ((rd l1 x30).Lo), iV ((rd l1 x30).Hi), .bool ((rd l1 x30).Unknown)], iV v5, .bool true, .bool true, iV n29, iV (w64 (n29 + 1)), iV (w64 (x30 + 1)), uV], []⟩) (by kernel_rfl) ?_
        refine wpList_nil ?_
        refine hK22 n23 _ _ (Nat.lt_succ_self _) ?_
        have HS87 := HS75.drop
        exact ⟨f72, (w64 (n29 + 1)), (w64 (x30 + 1)), (fun i_ => [Value.pointer (some ⟨b55, 0, none⟩), Value.bool true, Value.pointer (some ⟨b52, of53 + (x30 : Int).toNat * 3, none⟩), Value.agg #[.int .i64 ((rd l1 x30).Lo), .int .i64 ((rd l1 x30).Hi), .bool ((rd l1 x30).Unknown)], Value.agg #[.int .i64 ((rd l1 x30).Lo), .int .i64 ((rd l1 x30).Hi), .bool ((rd l1 x30).Unknown)], Value.agg #[.int .i64 ((rd l1 x30).Lo), .int .i64 ((rd l1 x30).Hi), .bool ((rd l1 x30).Unknown)], Value.bool vt63, Value.bool true, Value.bool true, Value.agg #[.int .i64 ((rd l1 x30).Lo), .int .i64 ((rd l1 x30).Hi), .bool ((rd l1 x30).Unknown)], Value.int .i64 v5, Value.bool true, Value.bool true, Value.int .i64 n29, Value.int .i64 (w64 (n29 + 1)), Value.int .i64 (w64 (x30 + 1))].getD i_ undef), (L25.trans (L66.trans L73)), HS87, h, (by kernel_rfl)⟩
      · have c77 : ¬ (vt70 = true) := c77
        refine wpRwI 21 (x := vt70) (v := false) (by kernel_rfl) (Bool.eq_false_iff.mpr c77) ?_
        refine wpRwI 22 (x := vt70) (v := false) (by kernel_rfl) (Bool.eq_false_iff.mpr c77) ?_
        refine condF (by kernel_rfl) ?_
        refine wp_skip ?_
        refine hn41 _ _ ?_
        refine hK38 _ _ ?_
        refine wp_region_lit ?_
        refine seqS2 (a' := ⟨#[.slice A2 l1.length c3, iV v5, uV, uV, iV 0, iV n29, uV, .pointer (some ⟨b55, 0, none⟩), .slice A2 l1.length c3, iV (l1.length : Int), iV (w64 (x30 + 1)), .bool true, .pointer (some ⟨b52, of53 + (x30 : Int).toNat * 3, none⟩), .agg #[iV ((rd l1 x30).Lo), iV ((rd l1 x30).Hi), .bool ((rd l1 x30).Unknown)], .agg #[iV ((rd l1 x30).Lo), iV ((rd l1 x30).Hi), .bool ((rd l1 x30).Unknown)], .agg #[iV ((rd l1 x30).Lo), iV ((rd l1 x30).Hi), .bool ((rd l1 x30).Unknown)], .bool vt63, .bool true, .bool true, .agg #[iV ((rd l1 x30).Lo), iV ((rd l1 x30).Hi), .bool ((rd l1 x30).Unknown)], iV v5, .bool false, .bool false, (j28 13), (j28 14), iV (w64 (x30 + 1)), uV], []⟩) (by kernel_rfl) ?_
        refine wpList_nil ?_
        refine hK22 n23 _ _ (Nat.lt_succ_self _) ?_
        have HS88 := HS75.drop
        exact ⟨f72, n29, (w64 (x30 + 1)), (fun i_ => [Value.pointer (some ⟨b55, 0, none⟩), Value.bool true, Value.pointer (some ⟨b52, of53 + (x30 : Int).toNat * 3, none⟩), Value.agg #[.int .i64 ((rd l1 x30).Lo), .int .i64 ((rd l1 x30).Hi), .bool ((rd l1 x30).Unknown)], Value.agg #[.int .i64 ((rd l1 x30).Lo), .int .i64 ((rd l1 x30).Hi), .bool ((rd l1 x30).Unknown)], Value.agg #[.int .i64 ((rd l1 x30).Lo), .int .i64 ((rd l1 x30).Hi), .bool ((rd l1 x30).Unknown)], Value.bool vt63, Value.bool true, Value.bool true, Value.agg #[.int .i64 ((rd l1 x30).Lo), .int .i64 ((rd l1 x30).Hi), .bool ((rd l1 x30).Unknown)], Value.int .i64 v5, Value.bool false, Value.bool false, (j28 13), (j28 14), Value.int .i64 (w64 (x30 + 1))].getD i_ undef), (L25.trans (L66.trans L73)), HS88, h, (by kernel_rfl)⟩
    · have c69 : ¬ (¬ (vt63 = true)) := c69
      refine seqRwI 17 (x := (!vt63)) (v := false) (by kernel_rfl) (congrArg (fun b_ => !b_) (show vt63 = true from (Decidable.of_not_not c69)) : (!vt63) = false) ?_
      refine seqRwI 18 (x := (!vt63)) (v := false) (by kernel_rfl) (congrArg (fun b_ => !b_) (show vt63 = true from (Decidable.of_not_not c69)) : (!vt63) = false) ?_
      refine seqS4 (a' := ⟨#[.slice A2 l1.length c3, iV v5, uV, uV, iV 0, iV n29, uV, .pointer (some ⟨b55, 0, none⟩), .slice A2 l1.length c3, iV (l1.length : Int), iV x30, .bool true, .pointer (some ⟨b52, of53 + (x30 : Int).toNat * 3, none⟩), .agg #[iV ((rd l1 x30).Lo), iV ((rd l1 x30).Hi), .bool ((rd l1 x30).Unknown)], .agg #[iV ((rd l1 x30).Lo), iV ((rd l1 x30).Hi), .bool ((rd l1 x30).Unknown)], .agg #[iV ((rd l1 x30).Lo), iV ((rd l1 x30).Hi), .bool ((rd l1 x30).Unknown)], .bool vt63, .bool false, .bool false, uV, uV, uV, .bool false, (j28 13), (j28 14), (j28 15), uV], []⟩) (by kernel_rfl) ?_
      refine wpList_nil ?_
      refine hK62 _ _ ?_
      refine condF (by kernel_rfl) ?_
      refine wp_skip ?_
      refine hn41 _ _ ?_
      refine hK38 _ _ ?_
      refine wp_region_lit ?_
      refine seqS2 (a' := ⟨#[.slice A2 l1.length c3, iV v5, uV, uV, iV 0, iV n29, uV, .pointer (some ⟨b55, 0, none⟩), .slice A2 l1.length c3, iV (l1.length : Int), iV (w64 (x30 + 1)), .bool true, .pointer (some ⟨b52, of53 + (x30 : Int).toNat * 3, none⟩), .agg #[iV ((rd l1 x30).Lo), iV ((rd l1 x30).Hi), .bool ((rd l1 x30).Unknown)], .agg #[iV ((rd l1 x30).Lo), iV ((rd l1 x30).Hi), .bool ((rd l1 x30).Unknown)], .agg #[iV ((rd l1 x30).Lo), iV ((rd l1 x30).Hi), .bool ((rd l1 x30).Unknown)], .bool vt63, .bool false, .bool false, uV, uV, uV, .bool false, (j28 13), (j28 14), iV (w64 (x30 + 1)), uV], []⟩) (by kernel_rfl) ?_
      refine wpList_nil ?_
      refine hK22 n23 _ _ (Nat.lt_succ_self _) ?_
      have HS89 := HS68.drop
      exact ⟨f65, n29, (w64 (x30 + 1)), (fun i_ => [Value.pointer (some ⟨b55, 0, none⟩), Value.bool true, Value.pointer (some ⟨b52, of53 + (x30 : Int).toNat * 3, none⟩), Value.agg #[.int .i64 ((rd l1 x30).Lo), .int .i64 ((rd l1 x30).Hi), .bool ((rd l1 x30).Unknown)], Value.agg #[.int .i64 ((rd l1 x30).Lo), .int .i64 ((rd l1 x30).Hi), .bool ((rd l1 x30).Unknown)], Value.agg #[.int .i64 ((rd l1 x30).Lo), .int .i64 ((rd l1 x30).Hi), .bool ((rd l1 x30).Unknown)], Value.bool vt63, Value.bool false, Value.bool false, undef, undef, undef, Value.bool false, (j28 13), (j28 14), Value.int .i64 (w64 (x30 + 1))].getD i_ undef), (L25.trans L66), HS89, h, (by kernel_rfl)⟩
  · have c36 : ¬ (x30 < (l1.length : Int)) := c36
    refine wpRwI 11 (x := (decide (x30 < (l1.length : Int)))) (v := false) (by kernel_rfl) (decide_eq_false c36) ?_
    refine condF (by kernel_rfl) ?_
    refine wp_exit ?_
    refine hx15 _ _ ?_
    exact J85 f24 n29 (fun i_ => [(j28 0), Value.int .i64 x30, Value.bool false, (j28 2), (j28 3), (j28 4), (j28 5), (j28 6), (j28 7), (j28 8), (j28 9), (j28 10), (j28 11), (j28 12), (j28 13), (j28 14), (j28 15)].getD i_ undef) W26 _ L25 h HS27 (by kernel_rfl)

set_option maxRecDepth 100000 in
set_option maxHeartbeats 4000000 in
theorem bound_Fuse_Quanta_1.calls (k : Nat) (b1 : Nat) (A6 : Option Addr) (c7 : Nat) (b3 : Nat) (v5 : List S_Bound) (v9 : Int) (v10 : Int) {t w : World} {f : FM} {H : List Seg} (HS : St t w f ([(b1, .cells #[.slice A6 v5.length c7] 32 (0, 0))] :: [(b3, .cells #[.int .i64 v9] 3 (0, 0))] :: H)) (HR8 : SlR ty_Bound f A6 c7 v5) (r1 : Bool) (h : bound_Fuse_Quanta_1 k v5 v9 v10 = some r1) :
    Calls Try.prog 76 #[.int .i64 v10, .pointer (some ⟨b1, 0, none⟩), .pointer (some ⟨b3, 0, none⟩)] w (fun e w' => ∃ (g : FM), e = .returned (Value.bool r1) ∧ FM.le f g ∧ St t w' g ([(b1, .cells #[.slice A6 v5.length c7] 32 (0, 0))] :: [(b3, .cells #[.int .i64 v9] 3 (0, 0))] :: H)) := by
  unfold bound_Fuse_Quanta_1 at h
  refine enter Try.func76 rfl (tm := #[iV v10, .pointer (some ⟨b1, 0, none⟩), .pointer (some ⟨b3, 0, none⟩), uV, uV, uV, uV, uV, uV, uV]) (by kernel_rfl) ?_
  intro B hret hnor hnp
  refine wp_seq_k (fun K11 hK12 => ?_)
  refine wp_region_lit ?_
  refine seqS1 (a' := ⟨#[iV v10, .pointer (some ⟨b1, 0, none⟩), .pointer (some ⟨b3, 0, none⟩), uV, .bool false, uV, uV, uV, uV, uV], []⟩) (by kernel_rfl) ?_
  refine wpList_nil ?_
  refine hK12 _ _ ?_
  refine wp_seq_k (fun K13 hK14 => ?_)
  refine heldG (S := Sg t f ([(b1, .cells #[.slice A6 v5.length c7] 32 (0, 0))] :: [(b3, .cells #[.int .i64 v9] 3 (0, 0))] :: H) []) (n := 6) (by kernel_rfl) rfl HS ?_
  intro W15 HS16
  refine takeGQ 0 [] rfl (by kernel_rfl) (by kernel_rfl) (by kernel_rfl) (by kernel_rfl) (by kernel_rfl) (by kernel_rfl) hnp (Sg.g0 (Sx.of [] (FM.le.refl _) HS16)) (fun w_ hw_ => by obtain ⟨g_, hl_, hS_⟩ := hw_.st; exact run_load rfl Try.underlying32 rfl (by kernel_rfl : _ = Value.pointer (some ⟨b1, 0, none⟩)) (hS_.cell 0)) ?_
  refine takeG [1] (n := 5) (fuel := 4) (l' := #[true, true, false, false, false, false]) (a' := ⟨#[iV v10, .pointer (some ⟨b1, 0, none⟩), .pointer (some ⟨b3, 0, none⟩), uV, .bool false, .slice A6 v5.length c7, iV v10, uV, uV, uV], []⟩) rfl (by kernel_rfl) (by kernel_rfl) (by kernel_rfl) hnp (Sg.g0 (Sx.of [] (FM.le.refl _) HS16)) ?_
  refine takeGQ 3 [] rfl (by kernel_rfl) (by kernel_rfl) (by kernel_rfl) (by kernel_rfl) (by kernel_rfl) (by kernel_rfl) hnp (Sg.g0 (Sx.of [] (FM.le.refl _) HS16)) (fun w_ hw_ => by obtain ⟨g_, hl_, hS_⟩ := hw_.st; exact run_load rfl Try.underlying3 rfl (by kernel_rfl : _ = Value.pointer (some ⟨b3, 0, none⟩)) (hS_.u1.cell 0)) ?_
  have hq_ := bind_some h; clear h; obtain ⟨vt17, hc18, h⟩ := hq_
  refine takeGE 2 (by kernel_rfl) rfl (by kernel_rfl) (does_call (f := 77) (args := #[.slice A6 v5.length c7, .int .i64 v10]) (by kernel_rfl) (bound_Votes_Quanta.calls k A6 c7 v5 v10 HS16 HR8 vt17 hc18) ?_)
  rintro _ W21 ⟨f19, rfl, L20, HS22⟩
  refine ⟨_, rfl, ?_⟩
  refine ⟨(Sg.g0 (Sx.of [] L20 HS22)), ?_⟩
  refine takeG [4, 5] (n := 2) (fuel := 0) (l' := #[true, true, true, true, true, true]) (a' := ⟨#[iV v10, .pointer (some ⟨b1, 0, none⟩), .pointer (some ⟨b3, 0, none⟩), uV, .bool (decide (vt17 < v9)), .slice A6 v5.length c7, iV v10, iV vt17, iV v9, .bool (decide (vt17 < v9))], []⟩) rfl (by kernel_rfl) (by kernel_rfl) (by kernel_rfl) hnp (Sg.g0 (Sx.of [] L20 HS22)) ?_
  refine doneG (by kernel_rfl) ?_ _
  refine hK14 _ _ ?_
  refine wp_ret ?_
  refine hret _ _ ?_
  refine ends_still (v := Value.bool (decide (vt17 < v9))) (by kernel_rfl) (by kernel_rfl) ?_
  injection h with h
  subst h
  exact ⟨f19, rfl, L20, HS22⟩

set_option maxRecDepth 100000 in
set_option maxHeartbeats 4000000 in
theorem slices_IndexFunc_Quanta__bound_Fuse_Quanta_1.calls (k : Nat) (b1 : Nat) (A6 : Option Addr) (c7 : Nat) (b3 : Nat) (A11 : Option Addr) (c12 : Nat) (v5 : List S_Bound) (v9 : Int) (s10 : List Int) {t w : World} {f : FM} {H : List Seg} (HS : St t w f ([(b1, .cells #[.slice A6 v5.length c7] 32 (0, 0))] :: [(b3, .cells #[.int .i64 v9] 3 (0, 0))] :: H)) (HR8 : SlR ty_Bound f A6 c7 v5) (HR13 : SlR (tInt .i64) f A11 c12 s10) (r1 : Int) (h : slices_IndexFunc_Quanta__bound_Fuse_Quanta_1 k v5 v9 s10 = some r1) :
    Calls Try.prog 107 #[.slice A11 s10.length c12, .func (.func 76) #[] #[.pointer (some ⟨b1, 0, none⟩), .pointer (some ⟨b3, 0, none⟩)]] w (fun e w' => ∃ (g : FM), e = .returned (Value.int .i64 r1) ∧ FM.le f g ∧ St t w' g ([(b1, .cells #[.slice A6 v5.length c7] 32 (0, 0))] :: [(b3, .cells #[.int .i64 v9] 3 (0, 0))] :: H)) := by
  unfold slices_IndexFunc_Quanta__bound_Fuse_Quanta_1 at h
  refine enter Try.func107 rfl (tm := #[.slice A11 s10.length c12, .func (.func 76) #[] #[.pointer (some ⟨b1, 0, none⟩), .pointer (some ⟨b3, 0, none⟩)], uV, uV, uV, uV, uV, uV, uV, uV, uV, uV, uV, uV, uV, uV, uV, uV, uV]) (by kernel_rfl) ?_
  intro B hret hnor hnp
  refine wp_seq_k (fun K14 hK15 => ?_)
  refine wp_region_lit ?_
  refine seqS1 (a' := ⟨#[.slice A11 s10.length c12, .func (.func 76) #[] #[.pointer (some ⟨b1, 0, none⟩), .pointer (some ⟨b3, 0, none⟩)], uV, uV, iV 0, uV, uV, uV, uV, uV, uV, uV, uV, uV, uV, uV, uV, uV, uV], []⟩) (by kernel_rfl) ?_
  refine wpList_nil ?_
  refine hK15 _ _ ?_
  refine wp_seq_k (fun K16 hK17 => ?_)
  refine wp_seq_k (fun K18 hK19 => ?_)
  refine wp_region_lit ?_
  refine seqS3 (a' := ⟨#[.slice A11 s10.length c12, .func (.func 76) #[] #[.pointer (some ⟨b1, 0, none⟩), .pointer (some ⟨b3, 0, none⟩)], uV, uV, iV 0, uV, .slice A11 s10.length c12, iV (s10.length : Int), iV 0, uV, uV, uV, uV, uV, uV, uV, uV, uV, uV], []⟩) (by kernel_rfl) ?_
  refine wpList_nil ?_
  refine hK19 _ _ ?_
  refine blockK (fun B20 hx21 hn22 hr23 ho24 hp25 => ?_)
  have hq_ := bind_some h; clear h; obtain ⟨o26, hv79, h⟩ := hq_
  have JR81 : ∀ z_, some (Sum.inl z_) = some o26 → some z_ = some r1 := by
    intro z_ e_; injection e_ with e_; subst e_; exact h
  have J80 : ∀ (f74 : FM) (j78 : Nat → Value) (W76 : World) (a_ : Act), FM.le f f74 → some (Sum.inr ()) = some o26 → St t W76 f74 ([(b1, .cells #[.slice A6 v5.length c7] 32 (0, 0))] :: [(b3, .cells #[.int .i64 v9] 3 (0, 0))] :: H) → a_ = ⟨#[.slice A11 s10.length c12, .func (.func 76) #[] #[.pointer (some ⟨b1, 0, none⟩), .pointer (some ⟨b3, 0, none⟩)], uV, uV, (j78 0), (j78 1), .slice A11 s10.length c12, iV (s10.length : Int), (j78 2), (j78 3), (j78 4), (j78 5), (j78 6), (j78 7), (j78 8), (j78 9), (j78 10), (j78 11), (j78 12)], []⟩ → K16 a_ W76 := by
    intro f74 j78 W76 a_ L75 hj82 HS77  hfr_; subst hfr_
    injection hj82 with hj82; subst hj82; try dsimp only at h
    simp only [Sum.elim_inr] at h
    refine hK17 _ _ ?_
    refine wp_seq_k (fun K83 hK84 => ?_)
    refine wp_region_lit ?_
    refine seqS1 (a' := ⟨#[.slice A11 s10.length c12, .func (.func 76) #[] #[.pointer (some ⟨b1, 0, none⟩), .pointer (some ⟨b3, 0, none⟩)], uV, uV, iV (-1), (j78 1), .slice A11 s10.length c12, iV (s10.length : Int), (j78 2), (j78 3), (j78 4), (j78 5), (j78 6), (j78 7), (j78 8), (j78 9), (j78 10), (j78 11), (j78 12)], []⟩) (by kernel_rfl) ?_
    refine wpList_nil ?_
    refine hK84 _ _ ?_
    refine wp_ret ?_
    refine hret _ _ ?_
    refine ends_still (v := Value.int .i64 (-1)) (by kernel_rfl) (by kernel_rfl) ?_
    injection h with h
    subst h
    exact ⟨f74, rfl, L75, HS77⟩
  clear h; have h := hv79; clear hv79
  refine loopK (fun n_ a_ w_ => ∃ (f30 : FM) (x35 : Int) (j34 : Nat → Value), FM.le f f30 ∧ St t w_ f30 ([(b1, .cells #[.slice A6 v5.length c7] 32 (0, 0))] :: [(b3, .cells #[.int .i64 v9] 3 (0, 0))] :: H) ∧ slices_IndexFunc_Quanta__bound_Fuse_Quanta_1.l0 k s10 v5 v9 n_ x35 = some o26 ∧ a_ = ⟨#[.slice A11 s10.length c12, .func (.func 76) #[] #[.pointer (some ⟨b1, 0, none⟩), .pointer (some ⟨b3, 0, none⟩)], uV, uV, (j34 0), (j34 1), .slice A11 s10.length c12, iV (s10.length : Int), iV x35, (j34 2), (j34 3), (j34 4), (j34 5), (j34 6), (j34 7), (j34 8), (j34 9), (j34 10), (j34 11)], []⟩) k ⟨f, 0, (fun i_ => [Value.int .i64 0, undef, undef, undef, undef, undef, undef, undef, undef, undef, undef, undef].getD i_ undef), (FM.le.refl _), HS, h, (by kernel_rfl)⟩ ?_
  clear h
  rintro n29 _ W32 ⟨f30, x35, j34, L31, HS33, h, rfl⟩ K27 hK28
  obtain _ | n29 := n29
  · exact nomatch h
  simp only [slices_IndexFunc_Quanta__bound_Fuse_Quanta_1.l0] at h
  refine wp_seq_k (fun K36 hK37 => ?_)
  refine wp_region_lit ?_
  refine seqS1 (a' := ⟨#[.slice A11 s10.length c12, .func (.func 76) #[] #[.pointer (some ⟨b1, 0, none⟩), .pointer (some ⟨b3, 0, none⟩)], uV, uV, (j34 0), (j34 1), .slice A11 s10.length c12, iV (s10.length : Int), iV x35, .bool (decide (x35 < (s10.length : Int))), (j34 3), (j34 4), (j34 5), (j34 6), (j34 7), (j34 8), (j34 9), (j34 10), (j34 11)], []⟩) (by kernel_rfl) ?_
  refine wpList_nil ?_
  refine hK37 _ _ ?_
  refine wp_seq_k (fun K38 hK39 => ?_)
  have hq_ := ite_some h; clear h; rcases hq_ with ⟨c41, h⟩ | ⟨c41, h⟩
  · have c41 : x35 < (s10.length : Int) := c41
    refine wpRwI 9 (x := (decide (x35 < (s10.length : Int)))) (v := true) (by kernel_rfl) (decide_eq_true c41) ?_
    refine condT (by kernel_rfl) ?_
    refine wp_skip ?_
    refine hK39 _ _ ?_
    refine wp_seq_k (fun K42 hK43 => ?_)
    refine blockK (fun B44 hx45 hn46 hr47 ho48 hp49 => ?_)
    refine wp_seq_k (fun K51 hK52 => ?_)
    refine wp_region_lit ?_
    refine seqS2 (a' := ⟨#[.slice A11 s10.length c12, .func (.func 76) #[] #[.pointer (some ⟨b1, 0, none⟩), .pointer (some ⟨b3, 0, none⟩)], uV, uV, (j34 0), iV x35, .slice A11 s10.length c12, iV (s10.length : Int), iV x35, .bool true, iV x35, (j34 4), (j34 5), (j34 6), (j34 7), (j34 8), (j34 9), (j34 10), (j34 11)], []⟩) (by kernel_rfl) ?_
    refine wpList_nil ?_
    refine hK52 _ _ ?_
    refine wp_seq_k (fun K53 hK54 => ?_)
    refine wp_region_lit ?_
    have hq_ := guard_some h; clear h; obtain ⟨c55, h⟩ := hq_
    have c55 : 0 ≤ x35 := c55
    obtain ⟨b59, of60, cs56, hA61, hr57, hc58⟩ := (HR13.mono L31).at (i := x35) c55 c41
    obtain rfl := hr57
    refine seqL3 (by kernel_rfl) ?_
    refine seqK rfl (does_run (run_indexE hA61 (sz := 1) rfl Try.underlying28 (by kernel_rfl) (by kernel_rfl : _ = Value.slice A11 s10.length c12) (by kernel_rfl : _ = Value.int .i64 x35) c55 c41 W32) ?_)
    refine seqK rfl (does_run (run_load rfl Try.underlying42 rfl (by kernel_rfl : _ = Value.pointer (some ⟨b59, of60 + (x35 : Int).toNat * 1, none⟩)) ((hc58 (FM.le.refl _) HS33) 0 (by decide))) ?_)
    have HS62 := HS33.u1
    have HS63 := HS62.u1
    have hq_ := bind_some h; clear h; obtain ⟨vt64, hc65, h⟩ := hq_
    refine seqK rfl (does_call (f := 76) (args := #[.int .i64 (rd s10 x35), .pointer (some ⟨b1, 0, none⟩), .pointer (some ⟨b3, 0, none⟩)]) (by kernel_rfl) (bound_Fuse_Quanta_1.calls k b1 A6 c7 b3 v5 v9 (rd s10 x35) HS63 (HR8.mono L31) vt64 hc65) ?_)
    rintro _ W68 ⟨f66, rfl, L67, HS69⟩
    refine ⟨_, rfl, ?_⟩
    refine wpList_nil ?_
    refine hK54 _ _ ?_
    have hq_ := ite_some h; clear h; rcases hq_ with ⟨c71, h⟩ | ⟨c71, h⟩
    · have c71 : vt64 = true := c71
      refine wpRwI 16 (x := vt64) (v := true) (by kernel_rfl) c71 ?_
      refine condT (by kernel_rfl) ?_
      refine wp_seq_k (fun K72 hK73 => ?_)
      refine wp_region_lit ?_
      refine seqS2 (a' := ⟨#[.slice A11 s10.length c12, .func (.func 76) #[] #[.pointer (some ⟨b1, 0, none⟩), .pointer (some ⟨b3, 0, none⟩)], uV, uV, iV x35, iV x35, .slice A11 s10.length c12, iV (s10.length : Int), iV x35, .bool true, iV x35, .func (.func 76) #[] #[.pointer (some ⟨b1, 0, none⟩), .pointer (some ⟨b3, 0, none⟩)], .slice A11 s10.length c12, iV x35, .pointer (some ⟨b59, of60 + (x35 : Int).toNat * 1, none⟩), iV (rd s10 x35), .bool true, iV x35, (j34 11)], []⟩) (by kernel_rfl) ?_
      refine wpList_nil ?_
      refine hK73 _ _ ?_
      refine wp_ret ?_
      refine hr47 _ _ ?_
      refine hr23 _ _ ?_
      refine hret _ _ ?_
      refine ends_still (v := Value.int .i64 x35) (by kernel_rfl) (by kernel_rfl) ?_
      replace h := JR81 _ h
      injection h with h
      subst h
      exact ⟨f66, rfl, (L31.trans L67), HS69⟩
    · have c71 : ¬ (vt64 = true) := c71
      refine wpRwI 16 (x := vt64) (v := false) (by kernel_rfl) (Bool.eq_false_iff.mpr c71) ?_
      refine condF (by kernel_rfl) ?_
      refine wp_skip ?_
      refine hn46 _ _ ?_
      refine hK43 _ _ ?_
      refine wp_region_lit ?_
      refine seqS2 (a' := ⟨#[.slice A11 s10.length c12, .func (.func 76) #[] #[.pointer (some ⟨b1, 0, none⟩), .pointer (some ⟨b3, 0, none⟩)], uV, uV, (j34 0), iV x35, .slice A11 s10.length c12, iV (s10.length : Int), iV (w64 (x35 + 1)), .bool true, iV x35, .func (.func 76) #[] #[.pointer (some ⟨b1, 0, none⟩), .pointer (some ⟨b3, 0, none⟩)], .slice A11 s10.length c12, iV x35, .pointer (some ⟨b59, of60 + (x35 : Int).toNat * 1, none⟩), iV (rd s10 x35), .bool false, (j34 10), iV (w64 (x35 + 1))], []⟩) (by kernel_rfl) ?_
      refine wpList_nil ?_
      refine hK28 n29 _ _ (Nat.lt_succ_self _) ?_
      exact ⟨f66, (w64 (x35 + 1)), (fun i_ => [(j34 0), Value.int .i64 x35, Value.bool true, Value.int .i64 x35, Value.func (.func 76) #[] #[.pointer (some ⟨b1, 0, none⟩), .pointer (some ⟨b3, 0, none⟩)], Value.slice A11 s10.length c12, Value.int .i64 x35, Value.pointer (some ⟨b59, of60 + (x35 : Int).toNat * 1, none⟩), Value.int .i64 (rd s10 x35), Value.bool false, (j34 10), Value.int .i64 (w64 (x35 + 1))].getD i_ undef), (L31.trans L67), HS69, h, (by kernel_rfl)⟩
  · have c41 : ¬ (x35 < (s10.length : Int)) := c41
    refine wpRwI 9 (x := (decide (x35 < (s10.length : Int)))) (v := false) (by kernel_rfl) (decide_eq_false c41) ?_
    refine condF (by kernel_rfl) ?_
    refine wp_exit ?_
    refine hx21 _ _ ?_
    exact J80 f30 (fun i_ => [(j34 0), (j34 1), Value.int .i64 x35, Value.bool false, (j34 3), (j34 4), (j34 5), (j34 6), (j34 7), (j34 8), (j34 9), (j34 10), (j34 11)].getD i_ undef) W32 _ L31 h HS33 (by kernel_rfl)

set_option maxRecDepth 100000 in
set_option maxHeartbeats 4000000 in
theorem slices_DeleteFunc_Quanta__bound_Fuse_Quanta_1.calls (k : Nat) (b1 : Nat) (A6 : Option Addr) (c7 : Nat) (b3 : Nat) (A10 : Option Addr) (c11 : Nat) (s12 : Seg) (v5 : List S_Bound) (v9 : Int) (s14 : List Int) {t w : World} {f : FM} {H : List Seg} (HS : St t w f ([(b1, .cells #[.slice A6 v5.length c7] 32 (0, 0))] :: [(b3, .cells #[.int .i64 v9] 3 (0, 0))] :: s12 :: H)) (HR8 : SlR ty_Bound f A6 c7 v5) (HO13 : Own (tInt .i64) 42 f A10 c11 s12 s14) (r1 : List Int) (h : slices_DeleteFunc_Quanta__bound_Fuse_Quanta_1 k v5 v9 s14 = some r1) :
    Calls Try.prog 78 #[.slice A10 s14.length c11, .func (.func 76) #[] #[.pointer (some ⟨b1, 0, none⟩), .pointer (some ⟨b3, 0, none⟩)]] w (fun e w' => ∃ (g : FM) (A210 : Option Addr) (c211 : Nat) (s212 : Seg), e = .returned (Value.slice A210 r1.length c211) ∧ FM.le f g ∧ St t w' g (s212 :: [(b1, .cells #[.slice A6 v5.length c7] 32 (0, 0))] :: [(b3, .cells #[.int .i64 v9] 3 (0, 0))] :: H) ∧ Own (tInt .i64) 42 g A210 c211 s212 r1) := by
  unfold slices_DeleteFunc_Quanta__bound_Fuse_Quanta_1 at h
  refine enter Try.func78 rfl (tm := #[.slice A10 s14.length c11, .func (.func 76) #[] #[.pointer (some ⟨b1, 0, none⟩), .pointer (some ⟨b3, 0, none⟩)], uV, uV, uV, uV, uV, uV, uV, uV, uV, uV, uV, uV, uV, uV, uV, uV, uV, uV, uV, uV, uV, uV, uV, uV, uV, uV, uV, uV, uV, uV, uV, uV, uV, uV, uV, uV, uV, uV, uV, uV]) (by kernel_rfl) ?_
  intro B hret hnor hnp
  refine wp_seq_k (fun K16 hK17 => ?_)
  refine wp_region_lit ?_
  refine seqS1 (a' := ⟨#[.slice A10 s14.length c11, .func (.func 76) #[] #[.pointer (some ⟨b1, 0, none⟩), .pointer (some ⟨b3, 0, none⟩)], uV, uV, .slice none 0 0, uV, uV, uV, uV, uV, uV, uV, uV, uV, uV, uV, uV, uV, uV, uV, uV, uV, uV, uV, uV, uV, uV, uV, uV, uV, uV, uV, uV, uV, uV, uV, uV, uV, uV, uV, uV, uV], []⟩) (by kernel_rfl) ?_
  refine wpList_nil ?_
  refine hK17 _ _ ?_
  refine wp_seq_k (fun K18 hK19 => ?_)
  refine wp_region_lit ?_
  have HS20 := HS.u2
  obtain ⟨f21, L22, HS23, HR24, th25⟩ := HO13.lend HS20
  have HS26 := HS23.u1
  have HS27 := HS26.u1
  have hq_ := bind_some h; clear h; obtain ⟨vt28, hc29, h⟩ := hq_
  refine seqL2 (by kernel_rfl) ?_
  refine seqK rfl (does_call (f := 107) (args := #[.slice A10 s14.length c11, .func (.func 76) #[] #[.pointer (some ⟨b1, 0, none⟩), .pointer (some ⟨b3, 0, none⟩)]]) (by kernel_rfl) (slices_IndexFunc_Quanta__bound_Fuse_Quanta_1.calls k b1 A6 c7 b3 A10 c11 v5 v9 s14 HS27 (HR8.mono L22) HR24 vt28 hc29) ?_)
  rintro _ W32 ⟨f30, rfl, L31, HS33⟩
  refine ⟨_, rfl, ?_⟩
  obtain ⟨f34, L35, HS36⟩ := th25 L31 HS33
  refine seqS1 (a' := ⟨#[.slice A10 s14.length c11, .func (.func 76) #[] #[.pointer (some ⟨b1, 0, none⟩), .pointer (some ⟨b3, 0, none⟩)], uV, uV, .slice none 0 0, iV vt28, uV, uV, .slice A10 s14.length c11, .func (.func 76) #[] #[.pointer (some ⟨b1, 0, none⟩), .pointer (some ⟨b3, 0, none⟩)], iV vt28, uV, uV, uV, uV, uV, uV, uV, uV, uV, uV, uV, uV, uV, uV, uV, uV, uV, uV, uV, uV, uV, uV, uV, uV, uV, uV, uV, uV, uV, uV, uV], []⟩) (by kernel_rfl) ?_
  refine wpList_nil ?_
  refine hK19 _ _ ?_
  refine wp_seq_k (fun K37 hK38 => ?_)
  refine wp_seq_k (fun K39 hK40 => ?_)
  refine wp_region_lit ?_
  refine seqS2 (a' := ⟨#[.slice A10 s14.length c11, .func (.func 76) #[] #[.pointer (some ⟨b1, 0, none⟩), .pointer (some ⟨b3, 0, none⟩)], uV, uV, .slice none 0 0, iV vt28, uV, uV, .slice A10 s14.length c11, .func (.func 76) #[] #[.pointer (some ⟨b1, 0, none⟩), .pointer (some ⟨b3, 0, none⟩)], iV vt28, iV vt28, .bool (vt28 == (-1)), uV, uV, uV, uV, uV, uV, uV, uV, uV, uV, uV, uV, uV, uV, uV, uV, uV, uV, uV, uV, uV, uV, uV, uV, uV, uV, uV, uV, uV], []⟩) (by kernel_rfl) ?_
  refine wpList_nil ?_
  refine hK40 _ _ ?_
  have hq_ := ite_some h; clear h; rcases hq_ with ⟨c42, h⟩ | ⟨c42, h⟩
  · have c42 : vt28 = (-1) := c42
    refine wpRwI 12 (x := (vt28 == (-1))) (v := true) (by kernel_rfl) (beq_iff_eq.mpr c42) ?_
    refine condT (by kernel_rfl) ?_
    refine wp_seq_k (fun K43 hK44 => ?_)
    refine wp_region_lit ?_
    refine seqS2 (a' := ⟨#[.slice A10 s14.length c11, .func (.func 76) #[] #[.pointer (some ⟨b1, 0, none⟩), .pointer (some ⟨b3, 0, none⟩)], uV, uV, .slice A10 s14.length c11, iV vt28, uV, uV, .slice A10 s14.length c11, .func (.func 76) #[] #[.pointer (some ⟨b1, 0, none⟩), .pointer (some ⟨b3, 0, none⟩)], iV vt28, iV vt28, .bool true, .slice A10 s14.length c11, uV, uV, uV, uV, uV, uV, uV, uV, uV, uV, uV, uV, uV, uV, uV, uV, uV, uV, uV, uV, uV, uV, uV, uV, uV, uV, uV, uV], []⟩) (by kernel_rfl) ?_
    refine wpList_nil ?_
    refine hK44 _ _ ?_
    refine wp_ret ?_
    refine hret _ _ ?_
    refine ends_still (v := Value.slice A10 s14.length c11) (by kernel_rfl) (by kernel_rfl) ?_
    injection h with h
    subst h
    exact ⟨f34, A10, c11, s12, rfl, L35, HS36, (HO13.mono L35)⟩
  · have c42 : ¬ (vt28 = (-1)) := c42
    refine wpRwI 12 (x := (vt28 == (-1))) (v := false) (by kernel_rfl) (beq_eq_false_iff_ne.mpr c42) ?_
    refine condF (by kernel_rfl) ?_
    refine wp_skip ?_
    refine hK38 _ _ ?_
    refine wp_seq_k (fun K45 hK46 => ?_)
    refine wp_seq_k (fun K47 hK48 => ?_)
    refine wp_region_lit ?_
    refine seqS3 (a' := ⟨#[.slice A10 s14.length c11, .func (.func 76) #[] #[.pointer (some ⟨b1, 0, none⟩), .pointer (some ⟨b3, 0, none⟩)], uV, uV, .slice none 0 0, iV vt28, iV (w64 (vt28 + 1)), uV, .slice A10 s14.length c11, .func (.func 76) #[] #[.pointer (some ⟨b1, 0, none⟩), .pointer (some ⟨b3, 0, none⟩)], iV vt28, iV vt28, .bool false, uV, iV vt28, iV (w64 (vt28 + 1)), uV, uV, uV, uV, uV, uV, uV, uV, uV, uV, uV, uV, uV, uV, uV, uV, uV, uV, uV, uV, uV, uV, uV, uV, uV, uV], []⟩) (by kernel_rfl) ?_
    refine wpList_nil ?_
    refine hK48 _ _ ?_
    refine blockK (fun B49 hx50 hn51 hr52 ho53 hp54 => ?_)
    have hq_ := bind_some h; clear h; obtain ⟨o117, hv193, h⟩ := hq_
    have J194 : ∀ (f183 : FM) (s189 : Seg) (s188 : List Int) (i192 : Int) (j187 : Nat → Value) (W185 : World) (a_ : Act), FM.le f34 f183 → some ((s188, i192)) = some o117 → St t W185 f183 (s189 :: [(b1, .cells #[.slice A6 v5.length c7] 32 (0, 0))] :: [(b3, .cells #[.int .i64 v9] 3 (0, 0))] :: H) → Own (tInt .i64) 42 f183 A10 c11 s189 s188 → s188.length = s14.length → a_ = ⟨#[.slice A10 s188.length c11, .func (.func 76) #[] #[.pointer (some ⟨b1, 0, none⟩), .pointer (some ⟨b3, 0, none⟩)], uV, uV, .slice none 0 0, iV i192, (j187 0), (j187 1), (j187 2), .func (.func 76) #[] #[.pointer (some ⟨b1, 0, none⟩), .pointer (some ⟨b3, 0, none⟩)], iV vt28, iV vt28, .bool false, uV, iV vt28, iV (w64 (vt28 + 1)), (j187 3), (j187 4), (j187 5), (j187 6), (j187 7), (j187 8), (j187 9), (j187 10), (j187 11), (j187 12), (j187 13), (j187 14), (j187 15), (j187 16), (j187 17), (j187 18), (j187 19), (j187 20), (j187 21), (j187 22), uV, uV, uV, uV, uV, uV], []⟩ → K45 a_ W185 := by
      intro f183 s189 s188 i192 j187 W185 a_ L184 hj195 HS186 HO190 HL191 hfr_; subst hfr_
      injection hj195 with hj195; subst hj195; try dsimp only at h
      refine hK46 _ _ ?_
      refine wp_seq_k (fun K199 hK200 => ?_)
      refine wp_region_lit ?_
      have hq_ := guard_some h; clear h; obtain ⟨c201, h⟩ := hq_
      have c201 : 0 ≤ i192 := c201
      have hq_ := guard_some h; clear h; obtain ⟨c202, h⟩ := hq_
      have c202 : i192 ≤ (s188.length : Int) := c202
      refine seqL2 (by kernel_rfl) ?_
      refine seqK rfl (does_run (run_cutV (e := (tInt .i64)) (xs := s188) rfl Try.underlying28 (by kernel_rfl) (by kernel_rfl : _ = Value.slice A10 s188.length c11) (by kernel_rfl : _ = Value.int .i64 i192) c201 c202 HO190.le W185) ?_)
      refine seqK rfl (does_clear (e := (tInt .i64)) (E := 42) (A := A10) (c := c11) (n := (i192).toNat) (xs := s188) (u := 0) rfl Try.underlying28 inf42 (by kernel_rfl : _ = Value.slice (cutA A10 c11 (i192).toNat 1) (s188.drop (i192).toNat).length (c11 - (i192).toNat)) rfl (by omega) rfl HO190 HS186 ?_)
      intro W203 s204 HS205 HO206
      refine seqRwS 0 (A := A10) (m := s188.length) (n := (clr s188 (i192).toNat 0).length) (c := c11) (by kernel_rfl) ((clr_lenI c201 c202)).symm ?_
      refine seqRwS 36 (A := A10) (m := s188.length) (n := (clr s188 (i192).toNat 0).length) (c := c11) (by kernel_rfl) ((clr_lenI c201 c202)).symm ?_
      refine wpList_nil ?_
      refine hK200 _ _ ?_
      refine wp_seq_k (fun K207 hK208 => ?_)
      refine wp_region_lit ?_
      have hq_ := guard_some h; clear h; obtain ⟨c209, h⟩ := hq_
      have c209 : i192 ≤ ((clr s188 (i192).toNat 0).length : Int) := c209
      refine seqL2 (by kernel_rfl) ?_
      refine seqK rfl (does_run (run_cutH (e := (tInt .i64)) (xs := (clr s188 (i192).toNat 0)) rfl Try.underlying28 (by kernel_rfl) (by kernel_rfl : _ = Value.slice A10 (clr s188 (i192).toNat 0).length c11) (by kernel_rfl : _ = Value.int .i64 i192) c201 c209 HO206.le W203) ?_)
      refine seqS1 (a' := ⟨#[.slice A10 (clr s188 (i192).toNat 0).length c11, .func (.func 76) #[] #[.pointer (some ⟨b1, 0, none⟩), .pointer (some ⟨b3, 0, none⟩)], uV, uV, .slice A10 ((clr s188 (i192).toNat 0).take (i192).toNat).length c11, iV i192, (j187 0), (j187 1), (j187 2), .func (.func 76) #[] #[.pointer (some ⟨b1, 0, none⟩), .pointer (some ⟨b3, 0, none⟩)], iV vt28, iV vt28, .bool false, uV, iV vt28, iV (w64 (vt28 + 1)), (j187 3), (j187 4), (j187 5), (j187 6), (j187 7), (j187 8), (j187 9), (j187 10), (j187 11), (j187 12), (j187 13), (j187 14), (j187 15), (j187 16), (j187 17), (j187 18), (j187 19), (j187 20), (j187 21), (j187 22), .slice A10 (clr s188 (i192).toNat 0).length c11, iV i192, .slice (cutA A10 c11 (i192).toNat 1) (s188.drop (i192).toNat).length (c11 - (i192).toNat), .slice A10 (clr s188 (i192).toNat 0).length c11, iV i192, .slice A10 ((clr s188 (i192).toNat 0).take (i192).toNat).length c11], []⟩) (by kernel_rfl) ?_
      refine wpList_nil ?_
      refine hK208 _ _ ?_
      refine wp_ret ?_
      refine hret _ _ ?_
      refine ends_still (v := Value.slice A10 ((clr s188 (i192).toNat 0).take (i192).toNat).length c11) (by kernel_rfl) (by kernel_rfl) ?_
      injection h with h
      subst h
      exact ⟨f183, A10, c11, s204, rfl, (L35.trans L184), HS205, (HO206.take (i192).toNat)⟩
    clear h; have h := hv193; clear hv193
    refine loopK (fun n_ a_ w_ => ∃ (f121 : FM) (s127 : Seg) (s126 : List Int) (i130 : Int) (j131 : Int) (j125 : Nat → Value), FM.le f34 f121 ∧ St t w_ f121 (s127 :: [(b1, .cells #[.slice A6 v5.length c7] 32 (0, 0))] :: [(b3, .cells #[.int .i64 v9] 3 (0, 0))] :: H) ∧ Own (tInt .i64) 42 f121 A10 c11 s127 s126 ∧ s126.length = s14.length ∧ slices_DeleteFunc_Quanta__bound_Fuse_Quanta_1.l0 k v5 v9 n_ s126 i130 j131 = some o117 ∧ a_ = ⟨#[.slice A10 s126.length c11, .func (.func 76) #[] #[.pointer (some ⟨b1, 0, none⟩), .pointer (some ⟨b3, 0, none⟩)], uV, uV, .slice none 0 0, iV i130, iV j131, (j125 0), .slice A10 s14.length c11, .func (.func 76) #[] #[.pointer (some ⟨b1, 0, none⟩), .pointer (some ⟨b3, 0, none⟩)], iV vt28, iV vt28, .bool false, uV, iV vt28, iV (w64 (vt28 + 1)), (j125 1), (j125 2), (j125 3), (j125 4), (j125 5), (j125 6), (j125 7), (j125 8), (j125 9), (j125 10), (j125 11), (j125 12), (j125 13), (j125 14), (j125 15), (j125 16), (j125 17), (j125 18), (j125 19), (j125 20), uV, uV, uV, uV, uV, uV], []⟩) k ⟨f34, s12, s14, vt28, (w64 (vt28 + 1)), (fun i_ => [undef, undef, undef, undef, undef, undef, undef, undef, undef, undef, undef, undef, undef, undef, undef, undef, undef, undef, undef, undef, undef].getD i_ undef), (FM.le.refl _), HS36, (HO13.mono L35), rfl, h, (by kernel_rfl)⟩ ?_
    clear h
    rintro n120 _ W123 ⟨f121, s127, s126, i130, j131, j125, L122, HS124, HO128, HL129, h, rfl⟩ K118 hK119
    obtain _ | n120 := n120
    · exact nomatch h
    simp only [slices_DeleteFunc_Quanta__bound_Fuse_Quanta_1.l0] at h
    refine wp_seq_k (fun K132 hK133 => ?_)
    refine wp_seq_k (fun K134 hK135 => ?_)
    refine wp_region_lit ?_
    refine seqS4 (a' := ⟨#[.slice A10 s126.length c11, .func (.func 76) #[] #[.pointer (some ⟨b1, 0, none⟩), .pointer (some ⟨b3, 0, none⟩)], uV, uV, .slice none 0 0, iV i130, iV j131, (j125 0), .slice A10 s14.length c11, .func (.func 76) #[] #[.pointer (some ⟨b1, 0, none⟩), .pointer (some ⟨b3, 0, none⟩)], iV vt28, iV vt28, .bool false, uV, iV vt28, iV (w64 (vt28 + 1)), iV j131, .slice A10 s126.length c11, iV (s126.length : Int), .bool (decide (j131 < (s126.length : Int))), (j125 5), (j125 6), (j125 7), (j125 8), (j125 9), (j125 10), (j125 11), (j125 12), (j125 13), (j125 14), (j125 15), (j125 16), (j125 17), (j125 18), (j125 19), (j125 20), uV, uV, uV, uV, uV, uV], []⟩) (by kernel_rfl) ?_
    refine wpList_nil ?_
    refine hK135 _ _ ?_
    have hq_ := ite_some h; clear h; rcases hq_ with ⟨c137, h⟩ | ⟨c137, h⟩
    · have c137 : j131 < (s126.length : Int) := c137
      refine wpRwI 19 (x := (decide (j131 < (s126.length : Int)))) (v := true) (by kernel_rfl) (decide_eq_true c137) ?_
      refine condT (by kernel_rfl) ?_
      refine wp_skip ?_
      refine hK133 _ _ ?_
      refine wp_seq_k (fun K138 hK139 => ?_)
      refine blockK (fun B140 hx141 hn142 hr143 ho144 hp145 => ?_)
      refine wp_seq_k (fun K147 hK148 => ?_)
      refine wp_region_lit ?_
      have hq_ := guard_some h; clear h; obtain ⟨c149, h⟩ := hq_
      have c149 : 0 ≤ j131 := c149
      obtain ⟨b153, of154, cs150, hA155, hr151, hc152⟩ := HO128.at (i := j131) c149 c137
      obtain rfl := hr151
      refine seqL2 (by kernel_rfl) ?_
      refine seqK rfl (does_run (run_indexE hA155 (sz := 1) rfl Try.underlying28 (by kernel_rfl) (by kernel_rfl : _ = Value.slice A10 s126.length c11) (by kernel_rfl : _ = Value.int .i64 j131) c149 c137 W123) ?_)
      refine seqK rfl (does_run (run_load rfl Try.underlying42 rfl (by kernel_rfl : _ = Value.pointer (some ⟨b153, of154 + (j131 : Int).toNat * 1, none⟩)) ((hc152 HS124) 0 (by decide))) ?_)
      refine seqS1 (a' := ⟨#[.slice A10 s126.length c11, .func (.func 76) #[] #[.pointer (some ⟨b1, 0, none⟩), .pointer (some ⟨b3, 0, none⟩)], uV, uV, .slice none 0 0, iV i130, iV j131, iV (rd s126 j131), .slice A10 s14.length c11, .func (.func 76) #[] #[.pointer (some ⟨b1, 0, none⟩), .pointer (some ⟨b3, 0, none⟩)], iV vt28, iV vt28, .bool false, uV, iV vt28, iV (w64 (vt28 + 1)), iV j131, .slice A10 s126.length c11, iV (s126.length : Int), .bool true, (j125 5), (j125 6), .slice A10 s126.length c11, iV j131, .pointer (some ⟨b153, of154 + (j131 : Int).toNat * 1, none⟩), iV (rd s126 j131), (j125 11), (j125 12), (j125 13), (j125 14), (j125 15), (j125 16), (j125 17), (j125 18), (j125 19), (j125 20), uV, uV, uV, uV, uV, uV], []⟩) (by kernel_rfl) ?_
      refine wpList_nil ?_
      refine hK148 _ _ ?_
      refine wp_seq_k (fun K156 hK157 => ?_)
      refine wp_region_lit ?_
      have HS158 := HS124.u2
      have HS159 := HS158.u2
      have hq_ := bind_some h; clear h; obtain ⟨vt160, hc161, h⟩ := hq_
      refine seqL2 (by kernel_rfl) ?_
      refine seqK rfl (does_call (f := 76) (args := #[.int .i64 (rd s126 j131), .pointer (some ⟨b1, 0, none⟩), .pointer (some ⟨b3, 0, none⟩)]) (by kernel_rfl) (bound_Fuse_Quanta_1.calls k b1 A6 c7 b3 v5 v9 (rd s126 j131) HS159 (HR8.mono (L35.trans L122)) vt160 hc161) ?_)
      rintro _ W164 ⟨f162, rfl, L163, HS165⟩
      refine ⟨_, rfl, ?_⟩
      refine seqS1 (a' := ⟨#[.slice A10 s126.length c11, .func (.func 76) #[] #[.pointer (some ⟨b1, 0, none⟩), .pointer (some ⟨b3, 0, none⟩)], uV, uV, .slice none 0 0, iV i130, iV j131, iV (rd s126 j131), .slice A10 s14.length c11, .func (.func 76) #[] #[.pointer (some ⟨b1, 0, none⟩), .pointer (some ⟨b3, 0, none⟩)], iV vt28, iV vt28, .bool false, uV, iV vt28, iV (w64 (vt28 + 1)), iV j131, .slice A10 s126.length c11, iV (s126.length : Int), .bool true, (j125 5), (j125 6), .slice A10 s126.length c11, iV j131, .pointer (some ⟨b153, of154 + (j131 : Int).toNat * 1, none⟩), iV (rd s126 j131), .func (.func 76) #[] #[.pointer (some ⟨b1, 0, none⟩), .pointer (some ⟨b3, 0, none⟩)], iV (rd s126 j131), .bool vt160, .bool (!vt160), (j125 15), (j125 16), (j125 17), (j125 18), (j125 19), (j125 20), uV, uV, uV, uV, uV, uV], []⟩) (by kernel_rfl) ?_
      refine wpList_nil ?_
      refine hK157 _ _ ?_
      have hq_ := ite_some h; clear h; rcases hq_ with ⟨c167, h⟩ | ⟨c167, h⟩
      · have c167 : ¬ (vt160 = true) := c167
        refine wpRwI 29 (x := (!vt160)) (v := true) (by kernel_rfl) (congrArg (fun b_ => !b_) (show vt160 = false from (Bool.eq_false_iff.mpr c167)) : (!vt160) = true) ?_
        refine condT (by kernel_rfl) ?_
        refine wp_seq_k (fun K168 hK169 => ?_)
        refine wp_region_lit ?_
        have hq_ := guard_some h; clear h; obtain ⟨c170, h⟩ := hq_
        have c170 : 0 ≤ i130 := c170
        have hq_ := guard_some h; clear h; obtain ⟨c171, h⟩ := hq_
        have c171 : i130 < (s126.length : Int) := c171
        obtain ⟨b175, of176, cs172, hA177, hr173, hc174⟩ := (HO128.mono L163).at (i := i130) c170 c171
        obtain rfl := hr173
        refine seqL3 (by kernel_rfl) ?_
        refine seqK rfl (does_run (run_indexE hA177 (sz := 1) rfl Try.underlying28 (by kernel_rfl) (by kernel_rfl : _ = Value.slice A10 s126.length c11) (by kernel_rfl : _ = Value.int .i64 i130) c170 c171 W164) ?_)
        have HS178 := HS165.u2
        refine seqK rfl (does_put (e := (tInt .i64)) (E := 42) (vs := [.int .i64 (rd s126 j131)]) (u := (rd s126 j131)) (i := i130) rfl (by kernel_rfl) (HO128.mono L163) HS178 hA177 (by kernel_rfl : _ = Value.pointer (some ⟨b175, of176 + (i130 : Int).toNat * 1, none⟩)) (by kernel_rfl : _ = Value.int .i64 (rd s126 j131)) rfl rfl c170 c171 ?_)
        intro W179 s180 HS181 HO182
        refine seqRwS 0 (A := A10) (m := s126.length) (n := (s126.set (i130).toNat (rd s126 j131)).length) (c := c11) (by kernel_rfl) (List.length_set).symm ?_
        refine seqRwS 17 (A := A10) (m := s126.length) (n := (s126.set (i130).toNat (rd s126 j131)).length) (c := c11) (by kernel_rfl) (List.length_set).symm ?_
        refine seqRwS 22 (A := A10) (m := s126.length) (n := (s126.set (i130).toNat (rd s126 j131)).length) (c := c11) (by kernel_rfl) (List.length_set).symm ?_
        refine seqRwS 30 (A := A10) (m := s126.length) (n := (s126.set (i130).toNat (rd s126 j131)).length) (c := c11) (by kernel_rfl) (List.length_set).symm ?_
        refine wpList_nil ?_
        refine hK169 _ _ ?_
        refine wp_region_lit ?_
        refine seqS3 (a' := ⟨#[.slice A10 (s126.set (i130).toNat (rd s126 j131)).length c11, .func (.func 76) #[] #[.pointer (some ⟨b1, 0, none⟩), .pointer (some ⟨b3, 0, none⟩)], uV, uV, .slice none 0 0, iV (w64 (i130 + 1)), iV j131, iV (rd s126 j131), .slice A10 s14.length c11, .func (.func 76) #[] #[.pointer (some ⟨b1, 0, none⟩), .pointer (some ⟨b3, 0, none⟩)], iV vt28, iV vt28, .bool false, uV, iV vt28, iV (w64 (vt28 + 1)), iV j131, .slice A10 (s126.set (i130).toNat (rd s126 j131)).length c11, iV (s126.length : Int), .bool true, (j125 5), (j125 6), .slice A10 (s126.set (i130).toNat (rd s126 j131)).length c11, iV j131, .pointer (some ⟨b153, of154 + (j131 : Int).toNat * 1, none⟩), iV (rd s126 j131), .func (.func 76) #[] #[.pointer (some ⟨b1, 0, none⟩), .pointer (some ⟨b3, 0, none⟩)], iV (rd s126 j131), .bool vt160, .bool true, .slice A10 (s126.set (i130).toNat (rd s126 j131)).length c11, iV i130, iV (rd s126 j131), .pointer (some ⟨b175, of176 + (i130 : Int).toNat * 1, none⟩), iV i130, iV (w64 (i130 + 1)), uV, uV, uV, uV, uV, uV], []⟩) (by kernel_rfl) ?_
        refine wpList_nil ?_
        refine hn142 _ _ ?_
        refine hK139 _ _ ?_
        refine wp_region_lit ?_
        refine seqS3 (a' := ⟨#[.slice A10 (s126.set (i130).toNat (rd s126 j131)).length c11, .func (.func 76) #[] #[.pointer (some ⟨b1, 0, none⟩), .pointer (some ⟨b3, 0, none⟩)], uV, uV, .slice none 0 0, iV (w64 (i130 + 1)), iV (w64 (j131 + 1)), iV (rd s126 j131), .slice A10 s14.length c11, .func (.func 76) #[] #[.pointer (some ⟨b1, 0, none⟩), .pointer (some ⟨b3, 0, none⟩)], iV vt28, iV vt28, .bool false, uV, iV vt28, iV (w64 (vt28 + 1)), iV j131, .slice A10 (s126.set (i130).toNat (rd s126 j131)).length c11, iV (s126.length : Int), .bool true, iV j131, iV (w64 (j131 + 1)), .slice A10 (s126.set (i130).toNat (rd s126 j131)).length c11, iV j131, .pointer (some ⟨b153, of154 + (j131 : Int).toNat * 1, none⟩), iV (rd s126 j131), .func (.func 76) #[] #[.pointer (some ⟨b1, 0, none⟩), .pointer (some ⟨b3, 0, none⟩)], iV (rd s126 j131), .bool vt160, .bool true, .slice A10 (s126.set (i130).toNat (rd s126 j131)).length c11, iV i130, iV (rd s126 j131), .pointer (some ⟨b175, of176 + (i130 : Int).toNat * 1, none⟩), iV i130, iV (w64 (i130 + 1)), uV, uV, uV, uV, uV, uV], []⟩) (by kernel_rfl) ?_
        refine wpList_nil ?_
        refine hK119 n120 _ _ (Nat.lt_succ_self _) ?_
        exact ⟨f162, s180, (s126.set (i130).toNat (rd s126 j131)), (w64 (i130 + 1)), (w64 (j131 + 1)), (fun i_ => [Value.int .i64 (rd s126 j131), Value.int .i64 j131, Value.slice A10 (s126.set (i130).toNat (rd s126 j131)).length c11, Value.int .i64 (s126.length : Int), Value.bool true, Value.int .i64 j131, Value.int .i64 (w64 (j131 + 1)), Value.slice A10 (s126.set (i130).toNat (rd s126 j131)).length c11, Value.int .i64 j131, Value.pointer (some ⟨b153, of154 + (j131 : Int).toNat * 1, none⟩), Value.int .i64 (rd s126 j131), Value.func (.func 76) #[] #[.pointer (some ⟨b1, 0, none⟩), .pointer (some ⟨b3, 0, none⟩)], Value.int .i64 (rd s126 j131), Value.bool vt160, Value.bool true, Value.slice A10 (s126.set (i130).toNat (rd s126 j131)).length c11, Value.int .i64 i130, Value.int .i64 (rd s126 j131), Value.pointer (some ⟨b175, of176 + (i130 : Int).toNat * 1, none⟩), Value.int .i64 i130, Value.int .i64 (w64 (i130 + 1))].getD i_ undef), (L122.trans L163), HS181, HO182, (List.length_set.trans HL129), h, (by kernel_rfl)⟩
      · have c167 : ¬ (¬ (vt160 = true)) := c167
        refine wpRwI 29 (x := (!vt160)) (v := false) (by kernel_rfl) (congrArg (fun b_ => !b_) (show vt160 = true from (Decidable.of_not_not c167)) : (!vt160) = false) ?_
        refine condF (by kernel_rfl) ?_
        refine wp_skip ?_
        refine hn142 _ _ ?_
        refine hK139 _ _ ?_
        refine wp_region_lit ?_
        refine seqS3 (a' := ⟨#[.slice A10 s126.length c11, .func (.func 76) #[] #[.pointer (some ⟨b1, 0, none⟩), .pointer (some ⟨b3, 0, none⟩)], uV, uV, .slice none 0 0, iV i130, iV (w64 (j131 + 1)), iV (rd s126 j131), .slice A10 s14.length c11, .func (.func 76) #[] #[.pointer (some ⟨b1, 0, none⟩), .pointer (some ⟨b3, 0, none⟩)], iV vt28, iV vt28, .bool false, uV, iV vt28, iV (w64 (vt28 + 1)), iV j131, .slice A10 s126.length c11, iV (s126.length : Int), .bool true, iV j131, iV (w64 (j131 + 1)), .slice A10 s126.length c11, iV j131, .pointer (some ⟨b153, of154 + (j131 : Int).toNat * 1, none⟩), iV (rd s126 j131), .func (.func 76) #[] #[.pointer (some ⟨b1, 0, none⟩), .pointer (some ⟨b3, 0, none⟩)], iV (rd s126 j131), .bool vt160, .bool false, (j125 15), (j125 16), (j125 17), (j125 18), (j125 19), (j125 20), uV, uV, uV, uV, uV, uV], []⟩) (by kernel_rfl) ?_
        refine wpList_nil ?_
        refine hK119 n120 _ _ (Nat.lt_succ_self _) ?_
        have HS196 := HS165.u1
        have HS197 := HS196.u1
        have HS198 := HS197.u2
        exact ⟨f162, s127, s126, i130, (w64 (j131 + 1)), (fun i_ => [Value.int .i64 (rd s126 j131), Value.int .i64 j131, Value.slice A10 s126.length c11, Value.int .i64 (s126.length : Int), Value.bool true, Value.int .i64 j131, Value.int .i64 (w64 (j131 + 1)), Value.slice A10 s126.length c11, Value.int .i64 j131, Value.pointer (some ⟨b153, of154 + (j131 : Int).toNat * 1, none⟩), Value.int .i64 (rd s126 j131), Value.func (.func 76) #[] #[.pointer (some ⟨b1, 0, none⟩), .pointer (some ⟨b3, 0, none⟩)], Value.int .i64 (rd s126 j131), Value.bool vt160, Value.bool false, (j125 15), (j125 16), (j125 17), (j125 18), (j125 19), (j125 20)].getD i_ undef), (L122.trans L163), HS198, (HO128.mono L163), HL129, h, (by kernel_rfl)⟩
    · have c137 : ¬ (j131 < (s126.length : Int)) := c137
      refine wpRwI 19 (x := (decide (j131 < (s126.length : Int)))) (v := false) (by kernel_rfl) (decide_eq_false c137) ?_
      refine condF (by kernel_rfl) ?_
      refine wp_exit ?_
      refine hx50 _ _ ?_
      exact J194 f121 s127 s126 i130 (fun i_ => [Value.int .i64 j131, (j125 0), Value.slice A10 s14.length c11, Value.int .i64 j131, Value.slice A10 s126.length c11, Value.int .i64 (s126.length : Int), Value.bool false, (j125 5), (j125 6), (j125 7), (j125 8), (j125 9), (j125 10), (j125 11), (j125 12), (j125 13), (j125 14), (j125 15), (j125 16), (j125 17), (j125 18), (j125 19), (j125 20)].getD i_ undef) W123 _ L122 h HS124 HO128 HL129 (by kernel_rfl)

set_option maxRecDepth 100000 in
set_option maxHeartbeats 4000000 in
theorem slices_Min_Quanta.calls (k : Nat) (A2 : Option Addr) (c3 : Nat) (x1 : List Int) {t w : World} {f : FM} {H : List Seg} (HS : St t w f (H)) (HR4 : SlR (tInt .i64) f A2 c3 x1) (r1 : Int) (h : slices_Min_Quanta k x1 = some r1) :
    Calls Try.prog 79 #[.slice A2 x1.length c3] w (fun e w' => ∃ (g : FM), e = .returned (Value.int .i64 r1) ∧ FM.le f g ∧ St t w' g (H)) := by
  unfold slices_Min_Quanta at h
  refine enter Try.func79 rfl (tm := #[.slice A2 x1.length c3, uV, uV, uV, uV, uV, uV, uV, uV, uV, uV, uV, uV, uV, uV, uV, uV, uV, uV, uV, uV, uV, uV, uV, uV]) (by kernel_rfl) ?_
  intro B hret hnor hnp
  refine wp_seq_k (fun K5 hK6 => ?_)
  refine wp_region_lit ?_
  refine seqS1 (a' := ⟨#[.slice A2 x1.length c3, uV, iV 0, uV, uV, uV, uV, uV, uV, uV, uV, uV, uV, uV, uV, uV, uV, uV, uV, uV, uV, uV, uV, uV, uV], []⟩) (by kernel_rfl) ?_
  refine wpList_nil ?_
  refine hK6 _ _ ?_
  refine wp_seq_k (fun K7 hK8 => ?_)
  refine wp_seq_k (fun K9 hK10 => ?_)
  refine wp_region_lit ?_
  refine seqS3 (a' := ⟨#[.slice A2 x1.length c3, uV, iV 0, uV, uV, .slice A2 x1.length c3, iV (x1.length : Int), .bool (decide ((x1.length : Int) < 1)), uV, uV, uV, uV, uV, uV, uV, uV, uV, uV, uV, uV, uV, uV, uV, uV, uV], []⟩) (by kernel_rfl) ?_
  refine wpList_nil ?_
  refine hK10 _ _ ?_
  have hq_ := ite_some h; clear h; rcases hq_ with ⟨c12, h⟩ | ⟨c12, h⟩
  · have c12 : (x1.length : Int) < 1 := c12
    refine wpRwI 7 (x := (decide ((x1.length : Int) < 1))) (v := true) (by kernel_rfl) (decide_eq_true c12) ?_
    refine condT (by kernel_rfl) ?_
    exact nomatch h
  · have c12 : ¬ ((x1.length : Int) < 1) := c12
    refine wpRwI 7 (x := (decide ((x1.length : Int) < 1))) (v := false) (by kernel_rfl) (decide_eq_false c12) ?_
    refine condF (by kernel_rfl) ?_
    refine wp_skip ?_
    refine hK8 _ _ ?_
    refine wp_seq_k (fun K13 hK14 => ?_)
    refine wp_region_lit ?_
    have hq_ := guard_some h; clear h; obtain ⟨c15, h⟩ := hq_
    have c15 : 0 < (x1.length : Int) := c15
    obtain ⟨b19, of20, cs16, hA21, hr17, hc18⟩ := HR4.at (i := 0) (by decide) c15
    obtain rfl := hr17
    refine seqL1 (by kernel_rfl) ?_
    refine seqK rfl (does_run (run_indexE hA21 (sz := 1) rfl Try.underlying28 (by kernel_rfl) (by kernel_rfl : _ = Value.slice A2 x1.length c3) (by kernel_rfl : _ = Value.int .i64 0) (by decide) c15 w) ?_)
    refine seqK rfl (does_run (run_load rfl Try.underlying42 rfl (by kernel_rfl : _ = Value.pointer (some ⟨b19, of20 + (0 : Int).toNat * 1, none⟩)) ((hc18 (FM.le.refl _) HS) 0 (by decide))) ?_)
    refine seqS1 (a' := ⟨#[.slice A2 x1.length c3, uV, iV 0, iV (rd x1 0), uV, .slice A2 x1.length c3, iV (x1.length : Int), .bool false, uV, .slice A2 x1.length c3, .pointer (some ⟨b19, of20 + (0 : Int).toNat * 1, none⟩), iV (rd x1 0), uV, uV, uV, uV, uV, uV, uV, uV, uV, uV, uV, uV, uV], []⟩) (by kernel_rfl) ?_
    refine wpList_nil ?_
    refine hK14 _ _ ?_
    refine wp_seq_k (fun K22 hK23 => ?_)
    refine wp_seq_k (fun K24 hK25 => ?_)
    refine wp_region_lit ?_
    refine seqS1 (a' := ⟨#[.slice A2 x1.length c3, uV, iV 0, iV (rd x1 0), iV 1, .slice A2 x1.length c3, iV (x1.length : Int), .bool false, uV, .slice A2 x1.length c3, .pointer (some ⟨b19, of20 + (0 : Int).toNat * 1, none⟩), iV (rd x1 0), uV, uV, uV, uV, uV, uV, uV, uV, uV, uV, uV, uV, uV], []⟩) (by kernel_rfl) ?_
    refine wpList_nil ?_
    refine hK25 _ _ ?_
    refine blockK (fun B26 hx27 hn28 hr29 ho30 hp31 => ?_)
    have hq_ := bind_some h; clear h; obtain ⟨o32, hv71, h⟩ := hq_
    have J72 : ∀ (f65 : FM) (m70 : Int) (j69 : Nat → Value) (W67 : World) (a_ : Act), FM.le f f65 → some (m70) = some o32 → St t W67 f65 (H) → a_ = ⟨#[.slice A2 x1.length c3, uV, iV 0, iV m70, (j69 0), .slice A2 x1.length c3, iV (x1.length : Int), .bool false, uV, .slice A2 x1.length c3, .pointer (some ⟨b19, of20 + (0 : Int).toNat * 1, none⟩), iV (rd x1 0), (j69 1), (j69 2), (j69 3), (j69 4), (j69 5), (j69 6), (j69 7), (j69 8), (j69 9), (j69 10), (j69 11), (j69 12), uV], []⟩ → K22 a_ W67 := by
      intro f65 m70 j69 W67 a_ L66 hj73 HS68  hfr_; subst hfr_
      injection hj73 with hj73; subst hj73; try dsimp only at h
      refine hK23 _ _ ?_
      refine wp_seq_k (fun K74 hK75 => ?_)
      refine wp_region_lit ?_
      refine seqS2 (a' := ⟨#[.slice A2 x1.length c3, uV, iV m70, iV m70, (j69 0), .slice A2 x1.length c3, iV (x1.length : Int), .bool false, uV, .slice A2 x1.length c3, .pointer (some ⟨b19, of20 + (0 : Int).toNat * 1, none⟩), iV (rd x1 0), (j69 1), (j69 2), (j69 3), (j69 4), (j69 5), (j69 6), (j69 7), (j69 8), (j69 9), (j69 10), (j69 11), (j69 12), iV m70], []⟩) (by kernel_rfl) ?_
      refine wpList_nil ?_
      refine hK75 _ _ ?_
      refine wp_ret ?_
      refine hret _ _ ?_
      refine ends_still (v := Value.int .i64 m70) (by kernel_rfl) (by kernel_rfl) ?_
      injection h with h
      subst h
      exact ⟨f65, rfl, L66, HS68⟩
    clear h; have h := hv71; clear hv71
    refine loopK (fun n_ a_ w_ => ∃ (f36 : FM) (m41 : Int) (i42 : Int) (j40 : Nat → Value), FM.le f f36 ∧ St t w_ f36 (H) ∧ slices_Min_Quanta.l0 k x1 n_ m41 i42 = some o32 ∧ a_ = ⟨#[.slice A2 x1.length c3, uV, iV 0, iV m41, iV i42, .slice A2 x1.length c3, iV (x1.length : Int), .bool false, uV, .slice A2 x1.length c3, .pointer (some ⟨b19, of20 + (0 : Int).toNat * 1, none⟩), iV (rd x1 0), (j40 0), (j40 1), (j40 2), (j40 3), (j40 4), (j40 5), (j40 6), (j40 7), (j40 8), (j40 9), (j40 10), (j40 11), uV], []⟩) k ⟨f, (rd x1 0), 1, (fun i_ => [undef, undef, undef, undef, undef, undef, undef, undef, undef, undef, undef, undef].getD i_ undef), (FM.le.refl _), HS, h, (by kernel_rfl)⟩ ?_
    clear h
    rintro n35 _ W38 ⟨f36, m41, i42, j40, L37, HS39, h, rfl⟩ K33 hK34
    obtain _ | n35 := n35
    · exact nomatch h
    simp only [slices_Min_Quanta.l0] at h
    refine wp_seq_k (fun K43 hK44 => ?_)
    refine wp_seq_k (fun K45 hK46 => ?_)
    refine wp_region_lit ?_
    refine seqS4 (a' := ⟨#[.slice A2 x1.length c3, uV, iV 0, iV m41, iV i42, .slice A2 x1.length c3, iV (x1.length : Int), .bool false, uV, .slice A2 x1.length c3, .pointer (some ⟨b19, of20 + (0 : Int).toNat * 1, none⟩), iV (rd x1 0), iV i42, .slice A2 x1.length c3, iV (x1.length : Int), .bool (decide (i42 < (x1.length : Int))), (j40 4), (j40 5), (j40 6), (j40 7), (j40 8), (j40 9), (j40 10), (j40 11), uV], []⟩) (by kernel_rfl) ?_
    refine wpList_nil ?_
    refine hK46 _ _ ?_
    have hq_ := ite_some h; clear h; rcases hq_ with ⟨c48, h⟩ | ⟨c48, h⟩
    · have c48 : i42 < (x1.length : Int) := c48
      refine wpRwI 15 (x := (decide (i42 < (x1.length : Int)))) (v := true) (by kernel_rfl) (decide_eq_true c48) ?_
      refine condT (by kernel_rfl) ?_
      refine wp_skip ?_
      refine hK44 _ _ ?_
      refine wp_seq_k (fun K49 hK50 => ?_)
      refine blockK (fun B51 hx52 hn53 hr54 ho55 hp56 => ?_)
      refine wp_region_lit ?_
      have hq_ := guard_some h; clear h; obtain ⟨c58, h⟩ := hq_
      have c58 : 0 ≤ i42 := c58
      obtain ⟨b62, of63, cs59, hA64, hr60, hc61⟩ := (HR4.mono L37).at (i := i42) c58 c48
      obtain rfl := hr60
      refine seqL3 (by kernel_rfl) ?_
      refine seqK rfl (does_run (run_indexE hA64 (sz := 1) rfl Try.underlying28 (by kernel_rfl) (by kernel_rfl : _ = Value.slice A2 x1.length c3) (by kernel_rfl : _ = Value.int .i64 i42) c58 c48 W38) ?_)
      refine seqK rfl (does_run (run_load rfl Try.underlying42 rfl (by kernel_rfl : _ = Value.pointer (some ⟨b62, of63 + (i42 : Int).toNat * 1, none⟩)) ((hc61 (FM.le.refl _) HS39) 0 (by decide))) ?_)
      refine seqS2 (a' := ⟨#[.slice A2 x1.length c3, uV, iV 0, iV (mn m41 (rd x1 i42)), iV i42, .slice A2 x1.length c3, iV (x1.length : Int), .bool false, uV, .slice A2 x1.length c3, .pointer (some ⟨b19, of20 + (0 : Int).toNat * 1, none⟩), iV (rd x1 0), iV i42, .slice A2 x1.length c3, iV (x1.length : Int), .bool true, (j40 4), (j40 5), iV m41, .slice A2 x1.length c3, iV i42, .pointer (some ⟨b62, of63 + (i42 : Int).toNat * 1, none⟩), iV (rd x1 i42), iV (mn m41 (rd x1 i42)), uV], []⟩) (by kernel_rfl) ?_
      refine wpList_nil ?_
      refine hn53 _ _ ?_
      refine hK50 _ _ ?_
      refine wp_region_lit ?_
      refine seqS3 (a' := ⟨#[.slice A2 x1.length c3, uV, iV 0, iV (mn m41 (rd x1 i42)), iV (w64 (i42 + 1)), .slice A2 x1.length c3, iV (x1.length : Int), .bool false, uV, .slice A2 x1.length c3, .pointer (some ⟨b19, of20 + (0 : Int).toNat * 1, none⟩), iV (rd x1 0), iV i42, .slice A2 x1.length c3, iV (x1.length : Int), .bool true, iV i42, iV (w64 (i42 + 1)), iV m41, .slice A2 x1.length c3, iV i42, .pointer (some ⟨b62, of63 + (i42 : Int).toNat * 1, none⟩), iV (rd x1 i42), iV (mn m41 (rd x1 i42)), uV], []⟩) (by kernel_rfl) ?_
      refine wpList_nil ?_
      refine hK34 n35 _ _ (Nat.lt_succ_self _) ?_
      exact ⟨f36, (mn m41 (rd x1 i42)), (w64 (i42 + 1)), (fun i_ => [Value.int .i64 i42, Value.slice A2 x1.length c3, Value.int .i64 (x1.length : Int), Value.bool true, Value.int .i64 i42, Value.int .i64 (w64 (i42 + 1)), Value.int .i64 m41, Value.slice A2 x1.length c3, Value.int .i64 i42, Value.pointer (some ⟨b62, of63 + (i42 : Int).toNat * 1, none⟩), Value.int .i64 (rd x1 i42), Value.int .i64 (mn m41 (rd x1 i42))].getD i_ undef), L37, HS39, h, (by kernel_rfl)⟩
    · have c48 : ¬ (i42 < (x1.length : Int)) := c48
      refine wpRwI 15 (x := (decide (i42 < (x1.length : Int)))) (v := false) (by kernel_rfl) (decide_eq_false c48) ?_
      refine condF (by kernel_rfl) ?_
      refine wp_exit ?_
      refine hx27 _ _ ?_
      exact J72 f36 m41 (fun i_ => [Value.int .i64 i42, Value.int .i64 i42, Value.slice A2 x1.length c3, Value.int .i64 (x1.length : Int), Value.bool false, (j40 4), (j40 5), (j40 6), (j40 7), (j40 8), (j40 9), (j40 10), (j40 11)].getD i_ undef) W38 _ L37 h HS39 (by kernel_rfl)

set_option maxRecDepth 100000 in
set_option maxHeartbeats 4000000 in
theorem slices_Max_Quanta.calls (k : Nat) (A2 : Option Addr) (c3 : Nat) (x1 : List Int) {t w : World} {f : FM} {H : List Seg} (HS : St t w f (H)) (HR4 : SlR (tInt .i64) f A2 c3 x1) (r1 : Int) (h : slices_Max_Quanta k x1 = some r1) :
    Calls Try.prog 80 #[.slice A2 x1.length c3] w (fun e w' => ∃ (g : FM), e = .returned (Value.int .i64 r1) ∧ FM.le f g ∧ St t w' g (H)) := by
  unfold slices_Max_Quanta at h
  refine enter Try.func80 rfl (tm := #[.slice A2 x1.length c3, uV, uV, uV, uV, uV, uV, uV, uV, uV, uV, uV, uV, uV, uV, uV, uV, uV, uV, uV, uV, uV, uV, uV, uV]) (by kernel_rfl) ?_
  intro B hret hnor hnp
  refine wp_seq_k (fun K5 hK6 => ?_)
  refine wp_region_lit ?_
  refine seqS1 (a' := ⟨#[.slice A2 x1.length c3, uV, iV 0, uV, uV, uV, uV, uV, uV, uV, uV, uV, uV, uV, uV, uV, uV, uV, uV, uV, uV, uV, uV, uV, uV], []⟩) (by kernel_rfl) ?_
  refine wpList_nil ?_
  refine hK6 _ _ ?_
  refine wp_seq_k (fun K7 hK8 => ?_)
  refine wp_seq_k (fun K9 hK10 => ?_)
  refine wp_region_lit ?_
  refine seqS3 (a' := ⟨#[.slice A2 x1.length c3, uV, iV 0, uV, uV, .slice A2 x1.length c3, iV (x1.length : Int), .bool (decide ((x1.length : Int) < 1)), uV, uV, uV, uV, uV, uV, uV, uV, uV, uV, uV, uV, uV, uV, uV, uV, uV], []⟩) (by kernel_rfl) ?_
  refine wpList_nil ?_
  refine hK10 _ _ ?_
  have hq_ := ite_some h; clear h; rcases hq_ with ⟨c12, h⟩ | ⟨c12, h⟩
  · have c12 : (x1.length : Int) < 1 := c12
    refine wpRwI 7 (x := (decide ((x1.length : Int) < 1))) (v := true) (by kernel_rfl) (decide_eq_true c12) ?_
    refine condT (by kernel_rfl) ?_
    exact nomatch h
  · have c12 : ¬ ((x1.length : Int) < 1) := c12
    refine wpRwI 7 (x := (decide ((x1.length : Int) < 1))) (v := false) (by kernel_rfl) (decide_eq_false c12) ?_
    refine condF (by kernel_rfl) ?_
    refine wp_skip ?_
    refine hK8 _ _ ?_
    refine wp_seq_k (fun K13 hK14 => ?_)
    refine wp_region_lit ?_
    have hq_ := guard_some h; clear h; obtain ⟨c15, h⟩ := hq_
    have c15 : 0 < (x1.length : Int) := c15
    obtain ⟨b19, of20, cs16, hA21, hr17, hc18⟩ := HR4.at (i := 0) (by decide) c15
    obtain rfl := hr17
    refine seqL1 (by kernel_rfl) ?_
    refine seqK rfl (does_run (run_indexE hA21 (sz := 1) rfl Try.underlying28 (by kernel_rfl) (by kernel_rfl : _ = Value.slice A2 x1.length c3) (by kernel_rfl : _ = Value.int .i64 0) (by decide) c15 w) ?_)
    refine seqK rfl (does_run (run_load rfl Try.underlying42 rfl (by kernel_rfl : _ = Value.pointer (some ⟨b19, of20 + (0 : Int).toNat * 1, none⟩)) ((hc18 (FM.le.refl _) HS) 0 (by decide))) ?_)
    refine seqS1 (a' := ⟨#[.slice A2 x1.length c3, uV, iV 0, iV (rd x1 0), uV, .slice A2 x1.length c3, iV (x1.length : Int), .bool false, uV, .slice A2 x1.length c3, .pointer (some ⟨b19, of20 + (0 : Int).toNat * 1, none⟩), iV (rd x1 0), uV, uV, uV, uV, uV, uV, uV, uV, uV, uV, uV, uV, uV], []⟩) (by kernel_rfl) ?_
    refine wpList_nil ?_
    refine hK14 _ _ ?_
    refine wp_seq_k (fun K22 hK23 => ?_)
    refine wp_seq_k (fun K24 hK25 => ?_)
    refine wp_region_lit ?_
    refine seqS1 (a' := ⟨#[.slice A2 x1.length c3, uV, iV 0, iV (rd x1 0), iV 1, .slice A2 x1.length c3, iV (x1.length : Int), .bool false, uV, .slice A2 x1.length c3, .pointer (some ⟨b19, of20 + (0 : Int).toNat * 1, none⟩), iV (rd x1 0), uV, uV, uV, uV, uV, uV, uV, uV, uV, uV, uV, uV, uV], []⟩) (by kernel_rfl) ?_
    refine wpList_nil ?_
    refine hK25 _ _ ?_
    refine blockK (fun B26 hx27 hn28 hr29 ho30 hp31 => ?_)
    have hq_ := bind_some h; clear h; obtain ⟨o32, hv71, h⟩ := hq_
    have J72 : ∀ (f65 : FM) (m70 : Int) (j69 : Nat → Value) (W67 : World) (a_ : Act), FM.le f f65 → some (m70) = some o32 → St t W67 f65 (H) → a_ = ⟨#[.slice A2 x1.length c3, uV, iV 0, iV m70, (j69 0), .slice A2 x1.length c3, iV (x1.length : Int), .bool false, uV, .slice A2 x1.length c3, .pointer (some ⟨b19, of20 + (0 : Int).toNat * 1, none⟩), iV (rd x1 0), (j69 1), (j69 2), (j69 3), (j69 4), (j69 5), (j69 6), (j69 7), (j69 8), (j69 9), (j69 10), (j69 11), (j69 12), uV], []⟩ → K22 a_ W67 := by
      intro f65 m70 j69 W67 a_ L66 hj73 HS68  hfr_; subst hfr_
      injection hj73 with hj73; subst hj73; try dsimp only at h
      refine hK23 _ _ ?_
      refine wp_seq_k (fun K74 hK75 => ?_)
      refine wp_region_lit ?_
      refine seqS2 (a' := ⟨#[.slice A2 x1.length c3, uV, iV m70, iV m70, (j69 0), .slice A2 x1.length c3, iV (x1.length : Int), .bool false, uV, .slice A2 x1.length c3, .pointer (some ⟨b19, of20 + (0 : Int).toNat * 1, none⟩), iV (rd x1 0), (j69 1), (j69 2), (j69 3), (j69 4), (j69 5), (j69 6), (j69 7), (j69 8), (j69 9), (j69 10), (j69 11), (j69 12), iV m70], []⟩) (by kernel_rfl) ?_
      refine wpList_nil ?_
      refine hK75 _ _ ?_
      refine wp_ret ?_
      refine hret _ _ ?_
      refine ends_still (v := Value.int .i64 m70) (by kernel_rfl) (by kernel_rfl) ?_
      injection h with h
      subst h
      exact ⟨f65, rfl, L66, HS68⟩
    clear h; have h := hv71; clear hv71
    refine loopK (fun n_ a_ w_ => ∃ (f36 : FM) (m41 : Int) (i42 : Int) (j40 : Nat → Value), FM.le f f36 ∧ St t w_ f36 (H) ∧ slices_Max_Quanta.l0 k x1 n_ m41 i42 = some o32 ∧ a_ = ⟨#[.slice A2 x1.length c3, uV, iV 0, iV m41, iV i42, .slice A2 x1.length c3, iV (x1.length : Int), .bool false, uV, .slice A2 x1.length c3, .pointer (some ⟨b19, of20 + (0 : Int).toNat * 1, none⟩), iV (rd x1 0), (j40 0), (j40 1), (j40 2), (j40 3), (j40 4), (j40 5), (j40 6), (j40 7), (j40 8), (j40 9), (j40 10), (j40 11), uV], []⟩) k ⟨f, (rd x1 0), 1, (fun i_ => [undef, undef, undef, undef, undef, undef, undef, undef, undef, undef, undef, undef].getD i_ undef), (FM.le.refl _), HS, h, (by kernel_rfl)⟩ ?_
    clear h
    rintro n35 _ W38 ⟨f36, m41, i42, j40, L37, HS39, h, rfl⟩ K33 hK34
    obtain _ | n35 := n35
    · exact nomatch h
    simp only [slices_Max_Quanta.l0] at h
    refine wp_seq_k (fun K43 hK44 => ?_)
    refine wp_seq_k (fun K45 hK46 => ?_)
    refine wp_region_lit ?_
    refine seqS4 (a' := ⟨#[.slice A2 x1.length c3, uV, iV 0, iV m41, iV i42, .slice A2 x1.length c3, iV (x1.length : Int), .bool false, uV, .slice A2 x1.length c3, .pointer (some ⟨b19, of20 + (0 : Int).toNat * 1, none⟩), iV (rd x1 0), iV i42, .slice A2 x1.length c3, iV (x1.length : Int), .bool (decide (i42 < (x1.length : Int))), (j40 4), (j40 5), (j40 6), (j40 7), (j40 8), (j40 9), (j40 10), (j40 11), uV], []⟩) (by kernel_rfl) ?_
    refine wpList_nil ?_
    refine hK46 _ _ ?_
    have hq_ := ite_some h; clear h; rcases hq_ with ⟨c48, h⟩ | ⟨c48, h⟩
    · have c48 : i42 < (x1.length : Int) := c48
      refine wpRwI 15 (x := (decide (i42 < (x1.length : Int)))) (v := true) (by kernel_rfl) (decide_eq_true c48) ?_
      refine condT (by kernel_rfl) ?_
      refine wp_skip ?_
      refine hK44 _ _ ?_
      refine wp_seq_k (fun K49 hK50 => ?_)
      refine blockK (fun B51 hx52 hn53 hr54 ho55 hp56 => ?_)
      refine wp_region_lit ?_
      have hq_ := guard_some h; clear h; obtain ⟨c58, h⟩ := hq_
      have c58 : 0 ≤ i42 := c58
      obtain ⟨b62, of63, cs59, hA64, hr60, hc61⟩ := (HR4.mono L37).at (i := i42) c58 c48
      obtain rfl := hr60
      refine seqL3 (by kernel_rfl) ?_
      refine seqK rfl (does_run (run_indexE hA64 (sz := 1) rfl Try.underlying28 (by kernel_rfl) (by kernel_rfl : _ = Value.slice A2 x1.length c3) (by kernel_rfl : _ = Value.int .i64 i42) c58 c48 W38) ?_)
      refine seqK rfl (does_run (run_load rfl Try.underlying42 rfl (by kernel_rfl : _ = Value.pointer (some ⟨b62, of63 + (i42 : Int).toNat * 1, none⟩)) ((hc61 (FM.le.refl _) HS39) 0 (by decide))) ?_)
      refine seqS2 (a' := ⟨#[.slice A2 x1.length c3, uV, iV 0, iV (mx m41 (rd x1 i42)), iV i42, .slice A2 x1.length c3, iV (x1.length : Int), .bool false, uV, .slice A2 x1.length c3, .pointer (some ⟨b19, of20 + (0 : Int).toNat * 1, none⟩), iV (rd x1 0), iV i42, .slice A2 x1.length c3, iV (x1.length : Int), .bool true, (j40 4), (j40 5), iV m41, .slice A2 x1.length c3, iV i42, .pointer (some ⟨b62, of63 + (i42 : Int).toNat * 1, none⟩), iV (rd x1 i42), iV (mx m41 (rd x1 i42)), uV], []⟩) (by kernel_rfl) ?_
      refine wpList_nil ?_
      refine hn53 _ _ ?_
      refine hK50 _ _ ?_
      refine wp_region_lit ?_
      refine seqS3 (a' := ⟨#[.slice A2 x1.length c3, uV, iV 0, iV (mx m41 (rd x1 i42)), iV (w64 (i42 + 1)), .slice A2 x1.length c3, iV (x1.length : Int), .bool false, uV, .slice A2 x1.length c3, .pointer (some ⟨b19, of20 + (0 : Int).toNat * 1, none⟩), iV (rd x1 0), iV i42, .slice A2 x1.length c3, iV (x1.length : Int), .bool true, iV i42, iV (w64 (i42 + 1)), iV m41, .slice A2 x1.length c3, iV i42, .pointer (some ⟨b62, of63 + (i42 : Int).toNat * 1, none⟩), iV (rd x1 i42), iV (mx m41 (rd x1 i42)), uV], []⟩) (by kernel_rfl) ?_
      refine wpList_nil ?_
      refine hK34 n35 _ _ (Nat.lt_succ_self _) ?_
      exact ⟨f36, (mx m41 (rd x1 i42)), (w64 (i42 + 1)), (fun i_ => [Value.int .i64 i42, Value.slice A2 x1.length c3, Value.int .i64 (x1.length : Int), Value.bool true, Value.int .i64 i42, Value.int .i64 (w64 (i42 + 1)), Value.int .i64 m41, Value.slice A2 x1.length c3, Value.int .i64 i42, Value.pointer (some ⟨b62, of63 + (i42 : Int).toNat * 1, none⟩), Value.int .i64 (rd x1 i42), Value.int .i64 (mx m41 (rd x1 i42))].getD i_ undef), L37, HS39, h, (by kernel_rfl)⟩
    · have c48 : ¬ (i42 < (x1.length : Int)) := c48
      refine wpRwI 15 (x := (decide (i42 < (x1.length : Int)))) (v := false) (by kernel_rfl) (decide_eq_false c48) ?_
      refine condF (by kernel_rfl) ?_
      refine wp_exit ?_
      refine hx27 _ _ ?_
      exact J72 f36 m41 (fun i_ => [Value.int .i64 i42, Value.int .i64 i42, Value.slice A2 x1.length c3, Value.int .i64 (x1.length : Int), Value.bool false, (j40 4), (j40 5), (j40 6), (j40 7), (j40 8), (j40 9), (j40 10), (j40 11)].getD i_ undef) W38 _ L37 h HS39 (by kernel_rfl)

set_option maxRecDepth 100000 in
set_option maxHeartbeats 4000000 in
theorem bound_Fuse_Quanta.calls (k : Nat) (A2 : Option Addr) (c3 : Nat) (l1 : List S_Bound) (vf5 : Int) {t w : World} {f : FM} {H : List Seg} (HS : St t w f (H)) (HR4 : SlR ty_Bound f A2 c3 l1) (r1 : S_Bound) (h : bound_Fuse_Quanta k l1 vf5 = some r1) :
    Calls Try.prog 41 #[.slice A2 l1.length c3, .int .i64 vf5] w (fun e w' => ∃ (g : FM), e = .returned (Value.agg #[.int .i64 r1.Lo, .int .i64 r1.Hi, .bool r1.Unknown]) ∧ FM.le f g ∧ St t w' g (H)) := by
  unfold bound_Fuse_Quanta at h
  refine enter Try.func41 rfl (tm := #[.slice A2 l1.length c3, iV vf5, uV, uV, uV, uV, uV, uV, uV, uV, uV, uV, uV, uV, uV, uV, uV, uV, uV, uV, uV, uV, uV, uV, uV, uV, uV, uV, uV, uV, uV, uV, uV, uV, uV, uV, uV, uV, uV, uV, uV, uV, uV, uV, uV, uV, uV, uV, uV, uV, uV, uV, uV]) (by kernel_rfl) ?_
  intro B hret hnor hnp
  refine wp_seq_k (fun K6 hK7 => ?_)
  refine wp_region_lit ?_
  refine seqK rfl (does_box (cs := #[.slice A2 l1.length c3]) rfl (by kernel_rfl : _ = Value.slice A2 l1.length c3) rfl HS ?_)
  intro b8 W9 HS10
  refine seqK rfl (does_alloc (z := Value.agg #[.int .i64 0, .int .i64 0, .bool false]) (cs := #[.int .i64 0, .int .i64 0, .bool false]) rfl (by kernel_rfl) rfl HS10 ?_)
  intro b12 W13 HS14
  refine wpList_nil ?_
  refine hK7 _ _ ?_
  refine wp_seq_k (fun K16 hK17 => ?_)
  refine wp_region_lit ?_
  refine seqS1 (a' := ⟨#[.slice A2 l1.length c3, iV vf5, .pointer (some ⟨b8, 0, none⟩), uV, .pointer (some ⟨b12, 0, none⟩), .slice none 0 0, uV, uV, uV, uV, uV, uV, uV, uV, uV, uV, uV, uV, uV, uV, uV, uV, uV, uV, uV, uV, uV, uV, uV, uV, uV, uV, uV, uV, uV, uV, uV, uV, uV, uV, uV, uV, uV, uV, uV, uV, uV, uV, uV, uV, uV, uV, uV], []⟩) (by kernel_rfl) ?_
  refine wpList_nil ?_
  refine hK17 _ _ ?_
  refine wp_seq_k (fun K18 hK19 => ?_)
  refine wp_seq_k (fun K20 hK21 => ?_)
  refine wp_region_lit ?_
  refine seqK rfl (does_run (run_load rfl Try.underlying32 rfl (by kernel_rfl : _ = Value.pointer (some ⟨b8, 0, none⟩)) (HS14.u1.cell 0)) ?_)
  refine seqS2 (a' := ⟨#[.slice A2 l1.length c3, iV vf5, .pointer (some ⟨b8, 0, none⟩), uV, .pointer (some ⟨b12, 0, none⟩), .slice none 0 0, uV, uV, uV, uV, .slice A2 l1.length c3, iV (l1.length : Int), iV 0, uV, uV, uV, uV, uV, uV, uV, uV, uV, uV, uV, uV, uV, uV, uV, uV, uV, uV, uV, uV, uV, uV, uV, uV, uV, uV, uV, uV, uV, uV, uV, uV, uV, uV, uV, uV, uV, uV, uV, uV], []⟩) (by kernel_rfl) ?_
  refine wpList_nil ?_
  refine hK21 _ _ ?_
  refine blockK (fun B22 hx23 hn24 hr25 ho26 hp27 => ?_)
  have hq_ := bind_some h; clear h; obtain ⟨o28, hv110, h⟩ := hq_
  have J111 : ∀ (f99 : FM) (A105 : Option Addr) (c106 : Nat) (s107 : Seg) (ends104 : List Int) (j103 : Nat → Value) (W101 : World) (a_ : Act), FM.le f f99 → some (ends104) = some o28 → St t W101 f99 (s107 :: [(b12, .cells #[.int .i64 0, .int .i64 0, .bool false] 44 (0, 0))] :: [(b8, .cells #[.slice A2 l1.length c3] 32 (0, 0))] :: H) → Own (tInt .i64) 42 f99 A105 c106 s107 ends104 → a_ = ⟨#[.slice A2 l1.length c3, iV vf5, .pointer (some ⟨b8, 0, none⟩), uV, .pointer (some ⟨b12, 0, none⟩), .slice A105 ends104.length c106, uV, (j103 0), uV, uV, .slice A2 l1.length c3, iV (l1.length : Int), (j103 1), (j103 2), (j103 3), (j103 4), (j103 5), (j103 6), (j103 7), (j103 8), (j103 9), (j103 10), (j103 11), (j103 12), (j103 13), (j103 14), (j103 15), (j103 16), uV, uV, uV, uV, uV, uV, uV, uV, uV, uV, uV, uV, uV, uV, uV, uV, uV, uV, uV, uV, uV, uV, uV, uV, uV], []⟩ → K18 a_ W101 := by
    intro f99 A105 c106 s107 ends104 j103 W101 a_ L100 hj112 HS102 HO108 hfr_; subst hfr_
    injection hj112 with hj112; subst hj112; try dsimp only at h
    refine hK19 _ _ ?_
    refine wp_seq_k (fun K125 hK126 => ?_)
    refine wp_region_lit ?_
    refine seqL5 (by kernel_rfl) ?_
    refine seqK rfl (does_alloc (z := Value.int .i64 0) (cs := #[.int .i64 0]) rfl (by kernel_rfl) rfl HS102 ?_)
    intro b127 W128 HS129
    refine seqK rfl (does_store (n := 1) (vs := [.int .i64 (w64 ((w64 (Int.tdiv (ends104.length : Int) 2)) - vf5))]) (cs' := #[.int .i64 (w64 ((w64 (Int.tdiv (ends104.length : Int) 2)) - vf5))]) rfl (by kernel_rfl) (by kernel_rfl : _ = Value.pointer (some ⟨b127, 0, none⟩)) (by kernel_rfl : _ = Value.int .i64 (w64 ((w64 (Int.tdiv (ends104.length : Int) 2)) - vf5))) rfl rfl (by intro u_ hu_; simp only [List.mem_cons, List.not_mem_nil, or_false] at hu_; subst hu_; rfl) HS129 (Nat.le_of_ble_eq_true rfl) (by kernel_rfl) ?_)
    intro W131 HS132
    refine wpList_nil ?_
    refine hK126 _ _ ?_
    refine wp_seq_k (fun K133 hK134 => ?_)
    refine wp_seq_k (fun K135 hK136 => ?_)
    refine wp_region_lit ?_
    refine seqS3 (a' := ⟨#[.slice A2 l1.length c3, iV vf5, .pointer (some ⟨b8, 0, none⟩), uV, .pointer (some ⟨b12, 0, none⟩), .slice A105 ends104.length c106, uV, (j103 0), .pointer (some ⟨b127, 0, none⟩), uV, .slice A2 l1.length c3, iV (l1.length : Int), (j103 1), (j103 2), (j103 3), (j103 4), (j103 5), (j103 6), (j103 7), (j103 8), (j103 9), (j103 10), (j103 11), (j103 12), (j103 13), (j103 14), (j103 15), (j103 16), .slice A105 ends104.length c106, iV (ends104.length : Int), iV (w64 (Int.tdiv (ends104.length : Int) 2)), iV vf5, iV (w64 ((w64 (Int.tdiv (ends104.length : Int) 2)) - vf5)), iV vf5, .bool (decide (vf5 < 0)), .bool (decide (vf5 < 0)), uV, uV, uV, uV, uV, uV, uV, uV, uV, uV, uV, uV, uV, uV, uV, uV, uV], []⟩) (by kernel_rfl) ?_
    have hq_ := ite_some h; clear h; rcases hq_ with ⟨c137, h⟩ | ⟨c137, h⟩
    · have c137 : vf5 < 0 := c137
      refine seqRwI 34 (x := (decide (vf5 < 0))) (v := true) (by kernel_rfl) (decide_eq_true c137) ?_
      refine seqRwI 35 (x := (decide (vf5 < 0))) (v := true) (by kernel_rfl) (decide_eq_true c137) ?_
      refine seqS3 (a' := ⟨#[.slice A2 l1.length c3, iV vf5, .pointer (some ⟨b8, 0, none⟩), uV, .pointer (some ⟨b12, 0, none⟩), .slice A105 ends104.length c106, uV, (j103 0), .pointer (some ⟨b127, 0, none⟩), uV, .slice A2 l1.length c3, iV (l1.length : Int), (j103 1), (j103 2), (j103 3), (j103 4), (j103 5), (j103 6), (j103 7), (j103 8), (j103 9), (j103 10), (j103 11), (j103 12), (j103 13), (j103 14), (j103 15), (j103 16), .slice A105 ends104.length c106, iV (ends104.length : Int), iV (w64 (Int.tdiv (ends104.length : Int) 2)), iV vf5, iV (w64 ((w64 (Int.tdiv (ends104.length : Int) 2)) - vf5)), iV vf5, .bool true, .bool true, uV, uV, .bool true, uV, uV, uV, uV, uV, uV, uV, uV, uV, uV, uV, uV, uV, uV], []⟩) (by kernel_rfl) ?_
      refine wpList_nil ?_
      refine hK136 _ _ ?_
      refine condT (by kernel_rfl) ?_
      refine wp_seq_k (fun K138 hK139 => ?_)
      refine wp_region_lit ?_
      have hq_ := bind_some h; clear h; obtain ⟨vt140, hc141, h⟩ := hq_
      refine seqK rfl (does_call (f := 32) (args := #[]) (by kernel_rfl) (bound_None_Quanta.calls k  HS132 vt140 hc141) ?_)
      rintro _ W144 ⟨f142, rfl, L143, HS145⟩
      refine ⟨_, rfl, ?_⟩
      have HS146 := HS145.u2
      refine seqK rfl (does_store (n := 3) (vs := [.int .i64 vt140.Lo, .int .i64 vt140.Hi, .bool vt140.Unknown]) (cs' := #[.int .i64 vt140.Lo, .int .i64 vt140.Hi, .bool vt140.Unknown]) rfl (by kernel_rfl) (by kernel_rfl : _ = Value.pointer (some ⟨b12, 0, none⟩)) (by kernel_rfl : _ = Value.agg #[.int .i64 vt140.Lo, .int .i64 vt140.Hi, .bool vt140.Unknown]) rfl rfl (by intro u_ hu_; simp only [List.mem_cons, List.not_mem_nil, or_false] at hu_; rcases hu_ with rfl | rfl | rfl <;> rfl) HS146 (Nat.le_of_ble_eq_true rfl) (by kernel_rfl) ?_)
      intro W147 HS148
      refine wpList_nil ?_
      refine hK139 _ _ ?_
      refine wp_ret ?_
      refine hret _ _ ?_
      refine ends (v := Value.agg #[.int .i64 vt140.Lo, .int .i64 vt140.Hi, .bool vt140.Unknown]) (results1 (q1 := .cell 4 44) (by kernel_rfl) (resN (n := 3) (cs := [.int .i64 vt140.Lo, .int .i64 vt140.Hi, .bool vt140.Unknown]) (by kernel_rfl : _ = Value.pointer (some ⟨b12, 0, none⟩)) Try.underlying44 rfl (by kernel_rfl) rfl (HS148.cells 0 3 _ rfl))) (by kernel_rfl) ?_
      have HS236 := HS148.drop
      have HS237 := HS236.drop
      have HS238 := HS237.drop
      have HS239 := HS238.drop
      injection h with h
      subst h
      exact ⟨f142, rfl, (L100.trans L143), HS239⟩
    · have c137 : ¬ (vf5 < 0) := c137
      refine seqRwI 34 (x := (decide (vf5 < 0))) (v := false) (by kernel_rfl) (decide_eq_false c137) ?_
      refine seqRwI 35 (x := (decide (vf5 < 0))) (v := false) (by kernel_rfl) (decide_eq_false c137) ?_
      refine seqG (by kernel_rfl) (does_run (run_load rfl Try.underlying3 rfl (by kernel_rfl : _ = Value.pointer (some ⟨b127, 0, none⟩)) (HS132.cell 0)) ?_)
      refine seqS2 (a' := ⟨#[.slice A2 l1.length c3, iV vf5, .pointer (some ⟨b8, 0, none⟩), uV, .pointer (some ⟨b12, 0, none⟩), .slice A105 ends104.length c106, uV, (j103 0), .pointer (some ⟨b127, 0, none⟩), uV, .slice A2 l1.length c3, iV (l1.length : Int), (j103 1), (j103 2), (j103 3), (j103 4), (j103 5), (j103 6), (j103 7), (j103 8), (j103 9), (j103 10), (j103 11), (j103 12), (j103 13), (j103 14), (j103 15), (j103 16), .slice A105 ends104.length c106, iV (ends104.length : Int), iV (w64 (Int.tdiv (ends104.length : Int) 2)), iV vf5, iV (w64 ((w64 (Int.tdiv (ends104.length : Int) 2)) - vf5)), iV vf5, .bool false, .bool false, iV (w64 ((w64 (Int.tdiv (ends104.length : Int) 2)) - vf5)), .bool (decide ((w64 ((w64 (Int.tdiv (ends104.length : Int) 2)) - vf5)) ≤ 0)), .bool (decide ((w64 ((w64 (Int.tdiv (ends104.length : Int) 2)) - vf5)) ≤ 0)), uV, uV, uV, uV, uV, uV, uV, uV, uV, uV, uV, uV, uV, uV], []⟩) (by kernel_rfl) ?_
      refine wpList_nil ?_
      refine hK136 _ _ ?_
      have hq_ := ite_some h; clear h; rcases hq_ with ⟨c150, h⟩ | ⟨c150, h⟩
      · have c150 : (w64 ((w64 (Int.tdiv (ends104.length : Int) 2)) - vf5)) ≤ 0 := c150
        refine wpRwI 37 (x := (decide ((w64 ((w64 (Int.tdiv (ends104.length : Int) 2)) - vf5)) ≤ 0))) (v := true) (by kernel_rfl) (decide_eq_true c150) ?_
        refine wpRwI 38 (x := (decide ((w64 ((w64 (Int.tdiv (ends104.length : Int) 2)) - vf5)) ≤ 0))) (v := true) (by kernel_rfl) (decide_eq_true c150) ?_
        refine condT (by kernel_rfl) ?_
        refine wp_seq_k (fun K151 hK152 => ?_)
        refine wp_region_lit ?_
        have hq_ := bind_some h; clear h; obtain ⟨vt153, hc154, h⟩ := hq_
        refine seqK rfl (does_call (f := 32) (args := #[]) (by kernel_rfl) (bound_None_Quanta.calls k  HS132 vt153 hc154) ?_)
        rintro _ W157 ⟨f155, rfl, L156, HS158⟩
        refine ⟨_, rfl, ?_⟩
        have HS159 := HS158.u2
        refine seqK rfl (does_store (n := 3) (vs := [.int .i64 vt153.Lo, .int .i64 vt153.Hi, .bool vt153.Unknown]) (cs' := #[.int .i64 vt153.Lo, .int .i64 vt153.Hi, .bool vt153.Unknown]) rfl (by kernel_rfl) (by kernel_rfl : _ = Value.pointer (some ⟨b12, 0, none⟩)) (by kernel_rfl : _ = Value.agg #[.int .i64 vt153.Lo, .int .i64 vt153.Hi, .bool vt153.Unknown]) rfl rfl (by intro u_ hu_; simp only [List.mem_cons, List.not_mem_nil, or_false] at hu_; rcases hu_ with rfl | rfl | rfl <;> rfl) HS159 (Nat.le_of_ble_eq_true rfl) (by kernel_rfl) ?_)
        intro W160 HS161
        refine wpList_nil ?_
        refine hK152 _ _ ?_
        refine wp_ret ?_
        refine hret _ _ ?_
        refine ends (v := Value.agg #[.int .i64 vt153.Lo, .int .i64 vt153.Hi, .bool vt153.Unknown]) (results1 (q1 := .cell 4 44) (by kernel_rfl) (resN (n := 3) (cs := [.int .i64 vt153.Lo, .int .i64 vt153.Hi, .bool vt153.Unknown]) (by kernel_rfl : _ = Value.pointer (some ⟨b12, 0, none⟩)) Try.underlying44 rfl (by kernel_rfl) rfl (HS161.cells 0 3 _ rfl))) (by kernel_rfl) ?_
        have HS240 := HS161.drop
        have HS241 := HS240.drop
        have HS242 := HS241.drop
        have HS243 := HS242.drop
        injection h with h
        subst h
        exact ⟨f155, rfl, (L100.trans L156), HS243⟩
      · have c150 : ¬ ((w64 ((w64 (Int.tdiv (ends104.length : Int) 2)) - vf5)) ≤ 0) := c150
        refine wpRwI 37 (x := (decide ((w64 ((w64 (Int.tdiv (ends104.length : Int) 2)) - vf5)) ≤ 0))) (v := false) (by kernel_rfl) (decide_eq_false c150) ?_
        refine wpRwI 38 (x := (decide ((w64 ((w64 (Int.tdiv (ends104.length : Int) 2)) - vf5)) ≤ 0))) (v := false) (by kernel_rfl) (decide_eq_false c150) ?_
        refine condF (by kernel_rfl) ?_
        refine wp_skip ?_
        refine hK134 _ _ ?_
        refine wp_seq_k (fun K162 hK163 => ?_)
        refine wp_region_lit ?_
        refine seqS2 (a' := ⟨#[.slice A2 l1.length c3, iV vf5, .pointer (some ⟨b8, 0, none⟩), uV, .pointer (some ⟨b12, 0, none⟩), .slice A105 ends104.length c106, uV, (j103 0), .pointer (some ⟨b127, 0, none⟩), .func (.func 76) #[] #[.pointer (some ⟨b8, 0, none⟩), .pointer (some ⟨b127, 0, none⟩)], .slice A2 l1.length c3, iV (l1.length : Int), (j103 1), (j103 2), (j103 3), (j103 4), (j103 5), (j103 6), (j103 7), (j103 8), (j103 9), (j103 10), (j103 11), (j103 12), (j103 13), (j103 14), (j103 15), (j103 16), .slice A105 ends104.length c106, iV (ends104.length : Int), iV (w64 (Int.tdiv (ends104.length : Int) 2)), iV vf5, iV (w64 ((w64 (Int.tdiv (ends104.length : Int) 2)) - vf5)), iV vf5, .bool false, .bool false, iV (w64 ((w64 (Int.tdiv (ends104.length : Int) 2)) - vf5)), .bool false, .bool false, uV, .func (.func 76) #[] #[.pointer (some ⟨b8, 0, none⟩), .pointer (some ⟨b127, 0, none⟩)], uV, uV, uV, uV, uV, uV, uV, uV, uV, uV, uV, uV], []⟩) (by kernel_rfl) ?_
        refine wpList_nil ?_
        refine hK163 _ _ ?_
        refine wp_seq_k (fun K164 hK165 => ?_)
        refine wp_seq_k (fun K166 hK167 => ?_)
        refine wp_region_lit ?_
        have HS168 := HS132.u1
        have HS169 := HS168.u1
        have HS170 := HS169.u3
        have hq_ := bind_some h; clear h; obtain ⟨vt171, hc172, h⟩ := hq_
        refine seqL2 (by kernel_rfl) ?_
        refine seqK rfl (does_call (f := 78) (args := #[.slice A105 ends104.length c106, .func (.func 76) #[] #[.pointer (some ⟨b8, 0, none⟩), .pointer (some ⟨b127, 0, none⟩)]]) (by kernel_rfl) (slices_DeleteFunc_Quanta__bound_Fuse_Quanta_1.calls k b8 A2 c3 b127 A105 c106 s107 l1 (w64 ((w64 (Int.tdiv (ends104.length : Int) 2)) - vf5)) ends104 HS170 (HR4.mono L100) HO108 vt171 hc172) ?_)
        rintro _ W175 ⟨f173, A177, c178, s179, rfl, L174, HS176, HO180⟩
        refine ⟨_, rfl, ?_⟩
        refine seqS1 (a' := ⟨#[.slice A2 l1.length c3, iV vf5, .pointer (some ⟨b8, 0, none⟩), uV, .pointer (some ⟨b12, 0, none⟩), .slice A177 vt171.length c178, uV, (j103 0), .pointer (some ⟨b127, 0, none⟩), .func (.func 76) #[] #[.pointer (some ⟨b8, 0, none⟩), .pointer (some ⟨b127, 0, none⟩)], .slice A2 l1.length c3, iV (l1.length : Int), (j103 1), (j103 2), (j103 3), (j103 4), (j103 5), (j103 6), (j103 7), (j103 8), (j103 9), (j103 10), (j103 11), (j103 12), (j103 13), (j103 14), (j103 15), (j103 16), .slice A105 ends104.length c106, iV (ends104.length : Int), iV (w64 (Int.tdiv (ends104.length : Int) 2)), iV vf5, iV (w64 ((w64 (Int.tdiv (ends104.length : Int) 2)) - vf5)), iV vf5, .bool false, .bool false, iV (w64 ((w64 (Int.tdiv (ends104.length : Int) 2)) - vf5)), .bool false, .bool false, uV, .func (.func 76) #[] #[.pointer (some ⟨b8, 0, none⟩), .pointer (some ⟨b127, 0, none⟩)], .slice A105 ends104.length c106, .func (.func 76) #[] #[.pointer (some ⟨b8, 0, none⟩), .pointer (some ⟨b127, 0, none⟩)], .slice A177 vt171.length c178, uV, uV, uV, uV, uV, uV, uV, uV, uV], []⟩) (by kernel_rfl) ?_
        refine wpList_nil ?_
        refine hK167 _ _ ?_
        refine wp_seq_k (fun K182 hK183 => ?_)
        refine wp_region_lit ?_
        refine seqS3 (a' := ⟨#[.slice A2 l1.length c3, iV vf5, .pointer (some ⟨b8, 0, none⟩), uV, .pointer (some ⟨b12, 0, none⟩), .slice A177 vt171.length c178, uV, (j103 0), .pointer (some ⟨b127, 0, none⟩), .func (.func 76) #[] #[.pointer (some ⟨b8, 0, none⟩), .pointer (some ⟨b127, 0, none⟩)], .slice A2 l1.length c3, iV (l1.length : Int), (j103 1), (j103 2), (j103 3), (j103 4), (j103 5), (j103 6), (j103 7), (j103 8), (j103 9), (j103 10), (j103 11), (j103 12), (j103 13), (j103 14), (j103 15), (j103 16), .slice A105 ends104.length c106, iV (ends104.length : Int), iV (w64 (Int.tdiv (ends104.length : Int) 2)), iV vf5, iV (w64 ((w64 (Int.tdiv (ends104.length : Int) 2)) - vf5)), iV vf5, .bool false, .bool false, iV (w64 ((w64 (Int.tdiv (ends104.length : Int) 2)) - vf5)), .bool false, .bool false, uV, .func (.func 76) #[] #[.pointer (some ⟨b8, 0, none⟩), .pointer (some ⟨b127, 0, none⟩)], .slice A105 ends104.length c106, .func (.func 76) #[] #[.pointer (some ⟨b8, 0, none⟩), .pointer (some ⟨b127, 0, none⟩)], .slice A177 vt171.length c178, .slice A177 vt171.length c178, iV (vt171.length : Int), .bool ((vt171.length : Int) == 0), uV, uV, uV, uV, uV, uV], []⟩) (by kernel_rfl) ?_
        refine wpList_nil ?_
        refine hK183 _ _ ?_
        have hq_ := ite_some h; clear h; rcases hq_ with ⟨c185, h⟩ | ⟨c185, h⟩
        · have c185 : (vt171.length : Int) = 0 := c185
          refine wpRwI 46 (x := ((vt171.length : Int) == 0)) (v := true) (by kernel_rfl) (beq_iff_eq.mpr c185) ?_
          refine condT (by kernel_rfl) ?_
          refine wp_seq_k (fun K186 hK187 => ?_)
          refine wp_region_lit ?_
          have hq_ := bind_some h; clear h; obtain ⟨vt188, hc189, h⟩ := hq_
          refine seqK rfl (does_call (f := 32) (args := #[]) (by kernel_rfl) (bound_None_Quanta.calls k  HS176 vt188 hc189) ?_)
          rintro _ W192 ⟨f190, rfl, L191, HS193⟩
          refine ⟨_, rfl, ?_⟩
          have HS194 := HS193.u3
          refine seqK rfl (does_store (n := 3) (vs := [.int .i64 vt188.Lo, .int .i64 vt188.Hi, .bool vt188.Unknown]) (cs' := #[.int .i64 vt188.Lo, .int .i64 vt188.Hi, .bool vt188.Unknown]) rfl (by kernel_rfl) (by kernel_rfl : _ = Value.pointer (some ⟨b12, 0, none⟩)) (by kernel_rfl : _ = Value.agg #[.int .i64 vt188.Lo, .int .i64 vt188.Hi, .bool vt188.Unknown]) rfl rfl (by intro u_ hu_; simp only [List.mem_cons, List.not_mem_nil, or_false] at hu_; rcases hu_ with rfl | rfl | rfl <;> rfl) HS194 (Nat.le_of_ble_eq_true rfl) (by kernel_rfl) ?_)
          intro W195 HS196
          refine wpList_nil ?_
          refine hK187 _ _ ?_
          refine wp_ret ?_
          refine hret _ _ ?_
          refine ends (v := Value.agg #[.int .i64 vt188.Lo, .int .i64 vt188.Hi, .bool vt188.Unknown]) (results1 (q1 := .cell 4 44) (by kernel_rfl) (resN (n := 3) (cs := [.int .i64 vt188.Lo, .int .i64 vt188.Hi, .bool vt188.Unknown]) (by kernel_rfl : _ = Value.pointer (some ⟨b12, 0, none⟩)) Try.underlying44 rfl (by kernel_rfl) rfl (HS196.cells 0 3 _ rfl))) (by kernel_rfl) ?_
          have HS244 := HS196.drop
          have HS245 := HS244.drop
          have HS246 := HS245.drop
          have HS247 := HS246.drop
          injection h with h
          subst h
          exact ⟨f190, rfl, (L100.trans (L174.trans L191)), HS247⟩
        · have c185 : ¬ ((vt171.length : Int) = 0) := c185
          refine wpRwI 46 (x := ((vt171.length : Int) == 0)) (v := false) (by kernel_rfl) (beq_eq_false_iff_ne.mpr c185) ?_
          refine condF (by kernel_rfl) ?_
          refine wp_skip ?_
          refine hK165 _ _ ?_
          refine wp_seq_k (fun K197 hK198 => ?_)
          refine wp_region_lit ?_
          obtain ⟨f199, L200, HS201, HR202, th203⟩ := HO180.lend HS176
          have hq_ := bind_some h; clear h; obtain ⟨vt204, hc205, h⟩ := hq_
          refine seqL1 (by kernel_rfl) ?_
          refine seqK rfl (does_call (f := 79) (args := #[.slice A177 vt171.length c178]) (by kernel_rfl) (slices_Min_Quanta.calls k A177 c178 vt171 HS201 HR202 vt204 hc205) ?_)
          rintro _ W208 ⟨f206, rfl, L207, HS209⟩
          refine ⟨_, rfl, ?_⟩
          obtain ⟨f210, L211, HS212⟩ := th203 L207 HS209
          obtain ⟨f213, L214, HS215, HR216, th217⟩ := (HO180.mono L211).lend HS212
          have hq_ := bind_some h; clear h; obtain ⟨vt218, hc219, h⟩ := hq_
          refine seqL1 (by kernel_rfl) ?_
          refine seqK rfl (does_call (f := 80) (args := #[.slice A177 vt171.length c178]) (by kernel_rfl) (slices_Max_Quanta.calls k A177 c178 vt171 HS215 HR216 vt218 hc219) ?_)
          rintro _ W222 ⟨f220, rfl, L221, HS223⟩
          refine ⟨_, rfl, ?_⟩
          obtain ⟨f224, L225, HS226⟩ := th217 L221 HS223
          have hq_ := bind_some h; clear h; obtain ⟨vt227, hc228, h⟩ := hq_
          refine seqK rfl (does_call (f := 22) (args := #[.int .i64 vt204, .int .i64 vt218]) (by kernel_rfl) (bound_Of_Quanta.calls k vt204 vt218 HS226 vt227 hc228) ?_)
          rintro _ W231 ⟨f229, rfl, L230, HS232⟩
          refine ⟨_, rfl, ?_⟩
          have HS233 := HS232.u3
          refine seqK rfl (does_store (n := 3) (vs := [.int .i64 vt227.Lo, .int .i64 vt227.Hi, .bool vt227.Unknown]) (cs' := #[.int .i64 vt227.Lo, .int .i64 vt227.Hi, .bool vt227.Unknown]) rfl (by kernel_rfl) (by kernel_rfl : _ = Value.pointer (some ⟨b12, 0, none⟩)) (by kernel_rfl : _ = Value.agg #[.int .i64 vt227.Lo, .int .i64 vt227.Hi, .bool vt227.Unknown]) rfl rfl (by intro u_ hu_; simp only [List.mem_cons, List.not_mem_nil, or_false] at hu_; rcases hu_ with rfl | rfl | rfl <;> rfl) HS233 (Nat.le_of_ble_eq_true rfl) (by kernel_rfl) ?_)
          intro W234 HS235
          refine wpList_nil ?_
          refine hK198 _ _ ?_
          refine wp_ret ?_
          refine hret _ _ ?_
          refine ends (v := Value.agg #[.int .i64 vt227.Lo, .int .i64 vt227.Hi, .bool vt227.Unknown]) (results1 (q1 := .cell 4 44) (by kernel_rfl) (resN (n := 3) (cs := [.int .i64 vt227.Lo, .int .i64 vt227.Hi, .bool vt227.Unknown]) (by kernel_rfl : _ = Value.pointer (some ⟨b12, 0, none⟩)) Try.underlying44 rfl (by kernel_rfl) rfl (HS235.cells 0 3 _ rfl))) (by kernel_rfl) ?_
          have HS248 := HS235.drop
          have HS249 := HS248.drop
          have HS250 := HS249.drop
          have HS251 := HS250.drop
          injection h with h
          subst h
          exact ⟨f229, rfl, (L100.trans (L174.trans (L211.trans (L225.trans L230)))), HS251⟩
  clear h; have h := hv110; clear hv110
  have HS113 := HS14.cons_nil
  refine loopK (fun n_ a_ w_ => ∃ (f32 : FM) (A38 : Option Addr) (c39 : Nat) (s40 : Seg) (ends37 : List Int) (x43 : Int) (j36 : Nat → Value), FM.le f f32 ∧ St t w_ f32 (s40 :: [(b12, .cells #[.int .i64 0, .int .i64 0, .bool false] 44 (0, 0))] :: [(b8, .cells #[.slice A2 l1.length c3] 32 (0, 0))] :: H) ∧ Own (tInt .i64) 42 f32 A38 c39 s40 ends37 ∧ bound_Fuse_Quanta.l0 k l1 n_ ends37 x43 = some o28 ∧ a_ = ⟨#[.slice A2 l1.length c3, iV vf5, .pointer (some ⟨b8, 0, none⟩), uV, .pointer (some ⟨b12, 0, none⟩), .slice A38 ends37.length c39, uV, (j36 0), uV, uV, .slice A2 l1.length c3, iV (l1.length : Int), iV x43, (j36 1), (j36 2), (j36 3), (j36 4), (j36 5), (j36 6), (j36 7), (j36 8), (j36 9), (j36 10), (j36 11), (j36 12), (j36 13), (j36 14), (j36 15), uV, uV, uV, uV, uV, uV, uV, uV, uV, uV, uV, uV, uV, uV, uV, uV, uV, uV, uV, uV, uV, uV, uV, uV, uV], []⟩) k ⟨f, none, 0, [], ([] : List Int), 0, (fun i_ => [undef, undef, undef, undef, undef, undef, undef, undef, undef, undef, undef, undef, undef, undef, undef, undef].getD i_ undef), (FM.le.refl _), HS113, (Own.nil _), h, (by kernel_rfl)⟩ ?_
  clear h
  rintro n31 _ W34 ⟨f32, A38, c39, s40, ends37, x43, j36, L33, HS35, HO41, h, rfl⟩ K29 hK30
  obtain _ | n31 := n31
  · exact nomatch h
  simp only [bound_Fuse_Quanta.l0] at h
  refine wp_seq_k (fun K44 hK45 => ?_)
  refine wp_region_lit ?_
  refine seqS1 (a' := ⟨#[.slice A2 l1.length c3, iV vf5, .pointer (some ⟨b8, 0, none⟩), uV, .pointer (some ⟨b12, 0, none⟩), .slice A38 ends37.length c39, uV, (j36 0), uV, uV, .slice A2 l1.length c3, iV (l1.length : Int), iV x43, .bool (decide (x43 < (l1.length : Int))), (j36 2), (j36 3), (j36 4), (j36 5), (j36 6), (j36 7), (j36 8), (j36 9), (j36 10), (j36 11), (j36 12), (j36 13), (j36 14), (j36 15), uV, uV, uV, uV, uV, uV, uV, uV, uV, uV, uV, uV, uV, uV, uV, uV, uV, uV, uV, uV, uV, uV, uV, uV, uV], []⟩) (by kernel_rfl) ?_
  refine wpList_nil ?_
  refine hK45 _ _ ?_
  refine wp_seq_k (fun K46 hK47 => ?_)
  have hq_ := ite_some h; clear h; rcases hq_ with ⟨c49, h⟩ | ⟨c49, h⟩
  · have c49 : x43 < (l1.length : Int) := c49
    refine wpRwI 13 (x := (decide (x43 < (l1.length : Int)))) (v := true) (by kernel_rfl) (decide_eq_true c49) ?_
    refine condT (by kernel_rfl) ?_
    refine wp_skip ?_
    refine hK47 _ _ ?_
    refine wp_seq_k (fun K50 hK51 => ?_)
    refine blockK (fun B52 hx53 hn54 hr55 ho56 hp57 => ?_)
    refine wp_seq_k (fun K59 hK60 => ?_)
    refine wp_region_lit ?_
    have hq_ := guard_some h; clear h; obtain ⟨c61, h⟩ := hq_
    have c61 : 0 ≤ x43 := c61
    obtain ⟨b65, of66, cs62, hA67, hr63, hc64⟩ := (HR4.mono L33).at (i := x43) c61 c49
    obtain rfl := hr63
    refine seqK rfl (does_run (run_indexE hA67 (sz := 3) rfl Try.underlying32 (by kernel_rfl) (by kernel_rfl : _ = Value.slice A2 l1.length c3) (by kernel_rfl : _ = Value.int .i64 x43) c61 c49 W34) ?_)
    refine seqK rfl (does_run (run_loadN (n := 3) rfl Try.underlying44 rfl (by kernel_rfl) (by kernel_rfl : _ = Value.pointer (some ⟨b65, of66 + (x43 : Int).toNat * 3, none⟩)) (cs := [.int .i64 ((rd l1 x43).Lo), .int .i64 ((rd l1 x43).Hi), .bool ((rd l1 x43).Unknown)]) rfl (fun j_ hj_ => ((hc64 (FM.le.refl _) HS35) j_ hj_))) ?_)
    refine seqK rfl (does_alloc (z := Value.agg #[.int .i64 0, .int .i64 0, .bool false]) (cs := #[.int .i64 0, .int .i64 0, .bool false]) rfl (by kernel_rfl) rfl HS35 ?_)
    intro b68 W69 HS70
    refine seqK rfl (does_store (n := 3) (vs := [.int .i64 ((rd l1 x43).Lo), .int .i64 ((rd l1 x43).Hi), .bool ((rd l1 x43).Unknown)]) (cs' := #[.int .i64 ((rd l1 x43).Lo), .int .i64 ((rd l1 x43).Hi), .bool ((rd l1 x43).Unknown)]) rfl (by kernel_rfl) (by kernel_rfl : _ = Value.pointer (some ⟨b68, 0, none⟩)) (by kernel_rfl : _ = Value.agg #[.int .i64 ((rd l1 x43).Lo), .int .i64 ((rd l1 x43).Hi), .bool ((rd l1 x43).Unknown)]) rfl rfl (by intro u_ hu_; simp only [List.mem_cons, List.not_mem_nil, or_false] at hu_; rcases hu_ with rfl | rfl | rfl <;> rfl) HS70 (Nat.le_of_ble_eq_true rfl) (by kernel_rfl) ?_)
    intro W72 HS73
    refine wpList_nil ?_
    refine hK60 _ _ ?_
    refine wp_seq_k (fun K74 hK75 => ?_)
    refine wp_region_lit ?_
    refine seqK rfl (does_run (run_loadN (n := 3) rfl Try.underlying44 rfl (by kernel_rfl) (by kernel_rfl : _ = Value.pointer (some ⟨b68, 0, none⟩)) (cs := [.int .i64 ((rd l1 x43).Lo), .int .i64 ((rd l1 x43).Hi), .bool ((rd l1 x43).Unknown)]) rfl (HS73.cells 0 3 _ rfl)) ?_)
    refine seqK rfl (does_run (run_loadN (n := 3) rfl Try.underlying44 rfl (by kernel_rfl) (by kernel_rfl : _ = Value.pointer (some ⟨b68, 0, none⟩)) (cs := [.int .i64 ((rd l1 x43).Lo), .int .i64 ((rd l1 x43).Hi), .bool ((rd l1 x43).Unknown)]) rfl (HS73.cells 0 3 _ rfl)) ?_)
    have hq_ := bind_some h; clear h; obtain ⟨vt76, hc77, h⟩ := hq_
    refine seqK rfl (does_call (f := 42) (args := #[.agg #[.int .i64 ((rd l1 x43).Lo), .int .i64 ((rd l1 x43).Hi), .bool ((rd l1 x43).Unknown)], .agg #[.int .i64 ((rd l1 x43).Lo), .int .i64 ((rd l1 x43).Hi), .bool ((rd l1 x43).Unknown)]]) (by kernel_rfl) (bound_vague_Quanta.calls k (rd l1 x43) (rd l1 x43) HS73 vt76 hc77) ?_)
    rintro _ W80 ⟨f78, rfl, L79, HS81⟩
    refine ⟨_, rfl, ?_⟩
    refine seqS1 (a' := ⟨#[.slice A2 l1.length c3, iV vf5, .pointer (some ⟨b8, 0, none⟩), uV, .pointer (some ⟨b12, 0, none⟩), .slice A38 ends37.length c39, uV, .pointer (some ⟨b68, 0, none⟩), uV, uV, .slice A2 l1.length c3, iV (l1.length : Int), iV x43, .bool true, .pointer (some ⟨b65, of66 + (x43 : Int).toNat * 3, none⟩), .agg #[iV ((rd l1 x43).Lo), iV ((rd l1 x43).Hi), .bool ((rd l1 x43).Unknown)], .agg #[iV ((rd l1 x43).Lo), iV ((rd l1 x43).Hi), .bool ((rd l1 x43).Unknown)], .agg #[iV ((rd l1 x43).Lo), iV ((rd l1 x43).Hi), .bool ((rd l1 x43).Unknown)], .bool vt76, .bool (!vt76), (j36 8), (j36 9), (j36 10), (j36 11), (j36 12), (j36 13), (j36 14), (j36 15), uV, uV, uV, uV, uV, uV, uV, uV, uV, uV, uV, uV, uV, uV, uV, uV, uV, uV, uV, uV, uV, uV, uV, uV, uV], []⟩) (by kernel_rfl) ?_
    refine wpList_nil ?_
    refine hK75 _ _ ?_
    have hq_ := ite_some h; clear h; rcases hq_ with ⟨c83, h⟩ | ⟨c83, h⟩
    · have c83 : ¬ (vt76 = true) := c83
      refine wpRwI 19 (x := (!vt76)) (v := true) (by kernel_rfl) (congrArg (fun b_ => !b_) (show vt76 = false from (Bool.eq_false_iff.mpr c83)) : (!vt76) = true) ?_
      refine condT (by kernel_rfl) ?_
      refine wp_region_lit ?_
      refine seqL2 (by kernel_rfl) ?_
      refine seqK rfl (does_run (run_load rfl Try.underlying42 rfl (by kernel_rfl : _ = Value.pointer (some ⟨b68, 0, none⟩)) (HS81.cell 0)) ?_)
      refine seqL1 (by kernel_rfl) ?_
      refine seqK rfl (does_run (run_load rfl Try.underlying42 rfl (by kernel_rfl : _ = Value.pointer (some ⟨b68, 1, none⟩)) (HS81.cell 1)) ?_)
      refine seqK rfl (does_lit (e := (tInt .i64)) (E := 42) (vs := #[(0, Value.int .i64 ((rd l1 x43).Lo)), (1, Value.int .i64 ((rd l1 x43).Hi))]) (cs := #[.int .i64 ((rd l1 x43).Lo), .int .i64 ((rd l1 x43).Hi)]) (xs := ([(rd l1 x43).Lo, (rd l1 x43).Hi] : List Int)) rfl Try.underlying28 (by kernel_rfl) (by kernel_rfl) ⟨[.int .i64 ((rd l1 x43).Lo)], _, rfl, rfl, ⟨[.int .i64 ((rd l1 x43).Hi)], _, rfl, rfl, rfl⟩⟩ rfl HS81 ?_ (by decide))
      intro b84 W85 s86 HS87 _ HO88
      have hq_ := guard_some h; clear h; obtain ⟨c90, h⟩ := hq_
      have c90 : (ends37.length + 2) * 8 ≤ 140737488355328 := c90
      have HS91 := HS87.u2
      have HS92 := HS91.u1
      refine seqK rfl (does_append1 (e := (tInt .i64)) (E := 42) (xs := ends37) (ys := ([(rd l1 x43).Lo, (rd l1 x43).Hi] : List Int)) rfl (by kernel_rfl : _ = Value.slice A38 ends37.length c39) (by kernel_rfl : _ = Value.slice (some ⟨b84, 0, none⟩) ([(rd l1 x43).Lo, (rd l1 x43).Hi] : List Int).length 2) Try.underlying28 inf42 (HO41.mono L79) HO88 HS92 c90 (lim63 c90 (by decide)) ?_)
      intro A93 c94 s95 W96 HS97 HO98
      refine seqS1 (a' := ⟨#[.slice A2 l1.length c3, iV vf5, .pointer (some ⟨b8, 0, none⟩), uV, .pointer (some ⟨b12, 0, none⟩), .slice A93 (ends37 ++ ([(rd l1 x43).Lo, (rd l1 x43).Hi] : List Int)).length c94, uV, .pointer (some ⟨b68, 0, none⟩), uV, uV, .slice A2 l1.length c3, iV (l1.length : Int), iV x43, .bool true, .pointer (some ⟨b65, of66 + (x43 : Int).toNat * 3, none⟩), .agg #[iV ((rd l1 x43).Lo), iV ((rd l1 x43).Hi), .bool ((rd l1 x43).Unknown)], .agg #[iV ((rd l1 x43).Lo), iV ((rd l1 x43).Hi), .bool ((rd l1 x43).Unknown)], .agg #[iV ((rd l1 x43).Lo), iV ((rd l1 x43).Hi), .bool ((rd l1 x43).Unknown)], .bool vt76, .bool true, .slice A38 ends37.length c39, .pointer (some ⟨b68, 0, none⟩), iV ((rd l1 x43).Lo), .pointer (some ⟨b68, 1, none⟩), iV ((rd l1 x43).Hi), .slice (some ⟨b84, 0, none⟩) ([(rd l1 x43).Lo, (rd l1 x43).Hi] : List Int).length 2, .slice A93 (ends37 ++ ([(rd l1 x43).Lo, (rd l1 x43).Hi] : List Int)).length c94, (j36 15), uV, uV, uV, uV, uV, uV, uV, uV, uV, uV, uV, uV, uV, uV, uV, uV, uV, uV, uV, uV, uV, uV, uV, uV, uV], []⟩) (by kernel_rfl) ?_
      refine wpList_nil ?_
      refine hn54 _ _ ?_
      refine hK51 _ _ ?_
      refine wp_region_lit ?_
      refine seqS2 (a' := ⟨#[.slice A2 l1.length c3, iV vf5, .pointer (some ⟨b8, 0, none⟩), uV, .pointer (some ⟨b12, 0, none⟩), .slice A93 (ends37 ++ ([(rd l1 x43).Lo, (rd l1 x43).Hi] : List Int)).length c94, uV, .pointer (some ⟨b68, 0, none⟩), uV, uV, .slice A2 l1.length c3, iV (l1.length : Int), iV (w64 (x43 + 1)), .bool true, .pointer (some ⟨b65, of66 + (x43 : Int).toNat * 3, none⟩), .agg #[iV ((rd l1 x43).Lo), iV ((rd l1 x43).Hi), .bool ((rd l1 x43).Unknown)], .agg #[iV ((rd l1 x43).Lo), iV ((rd l1 x43).Hi), .bool ((rd l1 x43).Unknown)], .agg #[iV ((rd l1 x43).Lo), iV ((rd l1 x43).Hi), .bool ((rd l1 x43).Unknown)], .bool vt76, .bool true, .slice A38 ends37.length c39, .pointer (some ⟨b68, 0, none⟩), iV ((rd l1 x43).Lo), .pointer (some ⟨b68, 1, none⟩), iV ((rd l1 x43).Hi), .slice (some ⟨b84, 0, none⟩) ([(rd l1 x43).Lo, (rd l1 x43).Hi] : List Int).length 2, .slice A93 (ends37 ++ ([(rd l1 x43).Lo, (rd l1 x43).Hi] : List Int)).length c94, iV (w64 (x43 + 1)), uV, uV, uV, uV, uV, uV, uV, uV, uV, uV, uV, uV, uV, uV, uV, uV, uV, uV, uV, uV, uV, uV, uV, uV, uV], []⟩) (by kernel_rfl) ?_
      refine wpList_nil ?_
      refine hK30 n31 _ _ (Nat.lt_succ_self _) ?_
      have HS115 := HS97.u3
      have HS116 := HS115.u3
      have HS117 := HS116.u2
      have HS118 := HS117.u3
      have HS119 := HS118.drop
      exact ⟨f78, A93, c94, s95, (ends37 ++ ([(rd l1 x43).Lo, (rd l1 x43).Hi] : List Int)), (w64 (x43 + 1)), (fun i_ => [Value.pointer (some ⟨b68, 0, none⟩), Value.bool true, Value.pointer (some ⟨b65, of66 + (x43 : Int).toNat * 3, none⟩), Value.agg #[.int .i64 ((rd l1 x43).Lo), .int .i64 ((rd l1 x43).Hi), .bool ((rd l1 x43).Unknown)], Value.agg #[.int .i64 ((rd l1 x43).Lo), .int .i64 ((rd l1 x43).Hi), .bool ((rd l1 x43).Unknown)], Value.agg #[.int .i64 ((rd l1 x43).Lo), .int .i64 ((rd l1 x43).Hi), .bool ((rd l1 x43).Unknown)], Value.bool vt76, Value.bool true, Value.slice A38 ends37.length c39, Value.pointer (some ⟨b68, 0, none⟩), Value.int .i64 ((rd l1 x43).Lo), Value.pointer (some ⟨b68, 1, none⟩), Value.int .i64 ((rd l1 x43).Hi), Value.slice (some ⟨b84, 0, none⟩) ([(rd l1 x43).Lo, (rd l1 x43).Hi] : List Int).length 2, Value.slice A93 (ends37 ++ ([(rd l1 x43).Lo, (rd l1 x43).Hi] : List Int)).length c94, Value.int .i64 (w64 (x43 + 1))].getD i_ undef), (L33.trans L79), HS119, HO98, h, (by kernel_rfl)⟩
    · have c83 : ¬ (¬ (vt76 = true)) := c83
      refine wpRwI 19 (x := (!vt76)) (v := false) (by kernel_rfl) (congrArg (fun b_ => !b_) (show vt76 = true from (Decidable.of_not_not c83)) : (!vt76) = false) ?_
      refine condF (by kernel_rfl) ?_
      refine wp_skip ?_
      refine hn54 _ _ ?_
      refine hK51 _ _ ?_
      refine wp_region_lit ?_
      refine seqS2 (a' := ⟨#[.slice A2 l1.length c3, iV vf5, .pointer (some ⟨b8, 0, none⟩), uV, .pointer (some ⟨b12, 0, none⟩), .slice A38 ends37.length c39, uV, .pointer (some ⟨b68, 0, none⟩), uV, uV, .slice A2 l1.length c3, iV (l1.length : Int), iV (w64 (x43 + 1)), .bool true, .pointer (some ⟨b65, of66 + (x43 : Int).toNat * 3, none⟩), .agg #[iV ((rd l1 x43).Lo), iV ((rd l1 x43).Hi), .bool ((rd l1 x43).Unknown)], .agg #[iV ((rd l1 x43).Lo), iV ((rd l1 x43).Hi), .bool ((rd l1 x43).Unknown)], .agg #[iV ((rd l1 x43).Lo), iV ((rd l1 x43).Hi), .bool ((rd l1 x43).Unknown)], .bool vt76, .bool false, (j36 8), (j36 9), (j36 10), (j36 11), (j36 12), (j36 13), (j36 14), iV (w64 (x43 + 1)), uV, uV, uV, uV, uV, uV, uV, uV, uV, uV, uV, uV, uV, uV, uV, uV, uV, uV, uV, uV, uV, uV, uV, uV, uV], []⟩) (by kernel_rfl) ?_
      refine wpList_nil ?_
      refine hK30 n31 _ _ (Nat.lt_succ_self _) ?_
      have HS120 := HS81.u3
      have HS121 := HS120.u3
      have HS122 := HS121.u3
      have HS123 := HS122.u3
      have HS124 := HS123.drop
      exact ⟨f78, A38, c39, s40, ends37, (w64 (x43 + 1)), (fun i_ => [Value.pointer (some ⟨b68, 0, none⟩), Value.bool true, Value.pointer (some ⟨b65, of66 + (x43 : Int).toNat * 3, none⟩), Value.agg #[.int .i64 ((rd l1 x43).Lo), .int .i64 ((rd l1 x43).Hi), .bool ((rd l1 x43).Unknown)], Value.agg #[.int .i64 ((rd l1 x43).Lo), .int .i64 ((rd l1 x43).Hi), .bool ((rd l1 x43).Unknown)], Value.agg #[.int .i64 ((rd l1 x43).Lo), .int .i64 ((rd l1 x43).Hi), .bool ((rd l1 x43).Unknown)], Value.bool vt76, Value.bool false, (j36 8), (j36 9), (j36 10), (j36 11), (j36 12), (j36 13), (j36 14), Value.int .i64 (w64 (x43 + 1))].getD i_ undef), (L33.trans L79), HS124, (HO41.mono L79), h, (by kernel_rfl)⟩
  · have c49 : ¬ (x43 < (l1.length : Int)) := c49
    refine wpRwI 13 (x := (decide (x43 < (l1.length : Int)))) (v := false) (by kernel_rfl) (decide_eq_false c49) ?_
    refine condF (by kernel_rfl) ?_
    refine wp_exit ?_
    refine hx23 _ _ ?_
    exact J111 f32 A38 c39 s40 ends37 (fun i_ => [(j36 0), Value.int .i64 x43, Value.bool false, (j36 2), (j36 3), (j36 4), (j36 5), (j36 6), (j36 7), (j36 8), (j36 9), (j36 10), (j36 11), (j36 12), (j36 13), (j36 14), (j36 15)].getD i_ undef) W34 _ L33 h HS35 HO41 (by kernel_rfl)

end Go.Sp.U4
