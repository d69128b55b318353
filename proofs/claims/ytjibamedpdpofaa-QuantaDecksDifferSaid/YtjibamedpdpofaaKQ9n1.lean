import Derived.Test.YtjibamedpdpofaaProg
import Derived.Test.YtjibamedpdpofaaSpCopy
import Derived.Test.YtjibamedpdpofaaFQ9
import Derived.Test.YtjibamedpdpofaaSpSort
import Derived.Test.YtjibamedpdpofaaShelf
import Derived.Test.YtjibamedpdpofaaKQ9n0
namespace Go.Sp.Q9
open Go Go.Sp Go.Proofs
set_option linter.unusedVariables false
attribute [local irreducible] wpList AnyL Code.wp Calls Does
set_option maxRecDepth 100000 in
set_option maxHeartbeats 4000000 in
theorem spykeep3_QuantaDecksDiffer.calls (k : Nat)  (seed1 : Int) (n2 : Int) (vk3 : Int) {t w : World} {f : FM} {H : List Seg} (HS : St t w f (H)) (r1 : Bool) (h : spykeep3_QuantaDecksDiffer k seed1 n2 vk3 = some r1) :
    Calls Try.prog 9 #[.int .u64 seed1, .int .i64 n2, .int .i64 vk3] w (fun e w' => ∃ (g : FM), e = .returned (Value.bool r1) ∧ FM.le f g ∧ St t w' g (H)) := by
  unfold spykeep3_QuantaDecksDiffer at h
  refine enter Try.func9 rfl (tm := #[.int .u64 seed1, .int .i64 n2, .int .i64 vk3, undef, undef, undef, undef, undef, undef, undef, undef, undef, undef, undef, undef, undef, undef, undef, undef, undef, undef, undef, undef, undef, undef, undef, undef, undef, undef, undef, undef, undef, undef, undef, undef, undef, undef, undef, undef, undef, undef, undef, undef, undef, undef, undef, undef, undef, undef, undef, undef, undef, undef, undef, undef, undef, undef, undef, undef, undef, undef, undef, undef, undef, undef, undef, undef, undef, undef, undef, undef, undef, undef, undef, undef, undef]) (by kernel_rfl) ?_
  intro B hret hnor hnp
  refine wp_seq_k (fun K4 hK5 => ?_)
  refine wp_region_lit ?_
  refine seqS1 (a' := ⟨#[.int .u64 seed1, .int .i64 n2, .int .i64 vk3, undef, undef, undef, .bool false, undef, undef, undef, undef, undef, undef, undef, undef, undef, undef, undef, undef, undef, undef, undef, undef, undef, undef, undef, undef, undef, undef, undef, undef, undef, undef, undef, undef, undef, undef, undef, undef, undef, undef, undef, undef, undef, undef, undef, undef, undef, undef, undef, undef, undef, undef, undef, undef, undef, undef, undef, undef, undef, undef, undef, undef, undef, undef, undef, undef, undef, undef, undef, undef, undef, undef, undef, undef, undef], []⟩) (by kernel_rfl) ?_
  refine wpList_nil ?_
  refine hK5 _ _ ?_
  refine wp_seq_k (fun K6 hK7 => ?_)
  refine wp_region_lit ?_
  have hq_ := bind_some h; clear h; obtain ⟨vt8, hc9, h⟩ := hq_
  refine seqL1 (by kernel_rfl) ?_
  refine seqK rfl (does_call (f := 24) (args := #[.int .i64 n2, .int .i64 300]) (by kernel_rfl) (spymake_Below.calls k n2 300 HS vt8 hc9) ?_)
  rintro _ W12 ⟨f10, rfl, L11, HS13⟩
  refine ⟨_, rfl, ?_⟩
  refine seqS1 (a' := ⟨#[.int .u64 seed1, .int .i64 vt8, .int .i64 vk3, undef, undef, undef, .bool false, undef, undef, undef, undef, undef, undef, .int .i64 n2, .int .i64 vt8, undef, undef, undef, undef, undef, undef, undef, undef, undef, undef, undef, undef, undef, undef, undef, undef, undef, undef, undef, undef, undef, undef, undef, undef, undef, undef, undef, undef, undef, undef, undef, undef, undef, undef, undef, undef, undef, undef, undef, undef, undef, undef, undef, undef, undef, undef, undef, undef, undef, undef, undef, undef, undef, undef, undef, undef, undef, undef, undef, undef, undef], []⟩) (by kernel_rfl) ?_
  refine wpList_nil ?_
  refine hK7 _ _ ?_
  refine wp_seq_k (fun K14 hK15 => ?_)
  refine wp_region_lit ?_
  have hq_ := bind_some h; clear h; obtain ⟨vt16, hc17, h⟩ := hq_
  refine seqL3 (by kernel_rfl) ?_
  refine seqK rfl (does_call (f := 24) (args := #[.int .i64 vk3, .int .i64 (w64 (vt8 + 1))]) (by kernel_rfl) (spymake_Below.calls k vk3 (w64 (vt8 + 1)) HS13 vt16 hc17) ?_)
  rintro _ W20 ⟨f18, rfl, L19, HS21⟩
  refine ⟨_, rfl, ?_⟩
  refine seqS1 (a' := ⟨#[.int .u64 seed1, .int .i64 vt8, .int .i64 vt16, undef, undef, undef, .bool false, undef, undef, undef, undef, undef, undef, .int .i64 n2, .int .i64 vt8, .int .i64 vk3, .int .i64 vt8, .int .i64 (w64 (vt8 + 1)), .int .i64 vt16, undef, undef, undef, undef, undef, undef, undef, undef, undef, undef, undef, undef, undef, undef, undef, undef, undef, undef, undef, undef, undef, undef, undef, undef, undef, undef, undef, undef, undef, undef, undef, undef, undef, undef, undef, undef, undef, undef, undef, undef, undef, undef, undef, undef, undef, undef, undef, undef, undef, undef, undef, undef, undef, undef, undef, undef, undef], []⟩) (by kernel_rfl) ?_
  refine wpList_nil ?_
  refine hK15 _ _ ?_
  refine wp_seq_k (fun K22 hK23 => ?_)
  refine wp_region_lit ?_
  have hq_ := bind_some h; clear h; obtain ⟨⟨vt24, vt25⟩, hc26, h⟩ := hq_
  refine seqL3 (by kernel_rfl) ?_
  refine seqK rfl (does_call (f := 28) (args := #[.int .u64 seed1, .int .i64 vt8, .int .i64 vt8]) (by kernel_rfl) (quanta_Deck.calls k seed1 vt8 vt8 HS21 vt24 vt25 hc26) ?_)
  rintro _ W29 ⟨f27, A31, c32, s33, rfl, L28, HS30, HO34⟩
  refine ⟨_, rfl, ?_⟩
  refine seqS5 (a' := ⟨#[.int .u64 seed1, .int .i64 vt8, .int .i64 vt16, undef, undef, undef, .bool false, .slice A31 vt24.length c32, .int .i64 vt25, undef, undef, undef, undef, .int .i64 n2, .int .i64 vt8, .int .i64 vk3, .int .i64 vt8, .int .i64 (w64 (vt8 + 1)), .int .i64 vt16, .tuple #[.slice A31 vt24.length c32, .int .i64 vt25], .int .u64 seed1, .int .i64 vt8, .int .i64 vt8, .tuple #[.slice A31 vt24.length c32, .int .i64 vt25], .slice A31 vt24.length c32, .int .i64 vt25, undef, undef, undef, undef, undef, undef, undef, undef, undef, undef, undef, undef, undef, undef, undef, undef, undef, undef, undef, undef, undef, undef, undef, undef, undef, undef, undef, undef, undef, undef, undef, undef, undef, undef, undef, undef, undef, undef, undef, undef, undef, undef, undef, undef, undef, undef, undef, undef, undef, undef], []⟩) (by kernel_rfl) ?_
  refine wpList_nil ?_
  refine hK23 _ _ ?_
  refine wp_seq_k (fun K36 hK37 => ?_)
  refine wp_region_lit ?_
  have hq_ := bind_some h; clear h; obtain ⟨⟨vt38, vt39⟩, hc40, h⟩ := hq_
  refine seqL3 (by kernel_rfl) ?_
  refine seqK rfl (does_call (f := 28) (args := #[.int .u64 seed1, .int .i64 vt8, .int .i64 vt16]) (by kernel_rfl) (quanta_Deck.calls k seed1 vt8 vt16 HS30 vt38 vt39 hc40) ?_)
  rintro _ W43 ⟨f41, A45, c46, s47, rfl, L42, HS44, HO48⟩
  refine ⟨_, rfl, ?_⟩
  refine seqS5 (a' := ⟨#[.int .u64 seed1, .int .i64 vt8, .int .i64 vt16, undef, undef, undef, .bool false, .slice A31 vt24.length c32, .int .i64 vt25, .slice A45 vt38.length c46, .int .i64 vt39, undef, undef, .int .i64 n2, .int .i64 vt8, .int .i64 vk3, .int .i64 vt8, .int .i64 (w64 (vt8 + 1)), .int .i64 vt16, .tuple #[.slice A31 vt24.length c32, .int .i64 vt25], .int .u64 seed1, .int .i64 vt8, .int .i64 vt8, .tuple #[.slice A31 vt24.length c32, .int .i64 vt25], .slice A31 vt24.length c32, .int .i64 vt25, .tuple #[.slice A45 vt38.length c46, .int .i64 vt39], .int .u64 seed1, .int .i64 vt8, .int .i64 vt16, .tuple #[.slice A45 vt38.length c46, .int .i64 vt39], .slice A45 vt38.length c46, .int .i64 vt39, undef, undef, undef, undef, undef, undef, undef, undef, undef, undef, undef, undef, undef, undef, undef, undef, undef, undef, undef, undef, undef, undef, undef, undef, undef, undef, undef, undef, undef, undef, undef, undef, undef, undef, undef, undef, undef, undef, undef, undef, undef, undef, undef], []⟩) (by kernel_rfl) ?_
  refine wpList_nil ?_
  refine hK37 _ _ ?_
  refine wp_seq_k (fun K50 hK51 => ?_)
  refine wp_seq_k (fun K52 hK53 => ?_)
  refine wp_region_lit ?_
  have hq_ := bind_some h; clear h; obtain ⟨vt54, hc55, h⟩ := hq_
  refine seqK rfl (does_call (f := 12) (args := #[]) (by kernel_rfl) (spykeep3_drawn.calls k  HS44 vt54 hc55) ?_)
  rintro _ W58 ⟨f56, rfl, L57, HS59⟩
  refine ⟨_, rfl, ?_⟩
  refine seqS2 (a' := ⟨#[.int .u64 seed1, .int .i64 vt8, .int .i64 vt16, undef, undef, undef, .bool false, .slice A31 vt24.length c32, .int .i64 vt25, .slice A45 vt38.length c46, .int .i64 vt39, undef, undef, .int .i64 n2, .int .i64 vt8, .int .i64 vk3, .int .i64 vt8, .int .i64 (w64 (vt8 + 1)), .int .i64 vt16, .tuple #[.slice A31 vt24.length c32, .int .i64 vt25], .int .u64 seed1, .int .i64 vt8, .int .i64 vt8, .tuple #[.slice A31 vt24.length c32, .int .i64 vt25], .slice A31 vt24.length c32, .int .i64 vt25, .tuple #[.slice A45 vt38.length c46, .int .i64 vt39], .int .u64 seed1, .int .i64 vt8, .int .i64 vt16, .tuple #[.slice A45 vt38.length c46, .int .i64 vt39], .slice A45 vt38.length c46, .int .i64 vt39, .bool vt54, .bool (!vt54), .bool (!vt54), undef, undef, undef, undef, undef, undef, undef, undef, undef, undef, undef, undef, undef, undef, undef, undef, undef, undef, undef, undef, undef, undef, undef, undef, undef, undef, undef, undef, undef, undef, undef, undef, undef, undef, undef, undef, undef, undef, undef, undef], []⟩) (by kernel_rfl) ?_
  have hq_ := ite_some h; clear h; rcases hq_ with ⟨c60, h⟩ | ⟨c60, h⟩
  · have c60 : ¬ (vt54 = true) := c60
    refine seqRwI 34 (x := (!vt54)) (v := true) (by kernel_rfl) (congrArg (fun b_ => !b_) (show vt54 = false from (Bool.eq_false_iff.mpr c60)) : (!vt54) = true) ?_
    refine seqRwI 35 (x := (!vt54)) (v := true) (by kernel_rfl) (congrArg (fun b_ => !b_) (show vt54 = false from (Bool.eq_false_iff.mpr c60)) : (!vt54) = true) ?_
    refine seqS27 (a' := ⟨#[.int .u64 seed1, .int .i64 vt8, .int .i64 vt16, undef, undef, undef, .bool false, .slice A31 vt24.length c32, .int .i64 vt25, .slice A45 vt38.length c46, .int .i64 vt39, undef, undef, .int .i64 n2, .int .i64 vt8, .int .i64 vk3, .int .i64 vt8, .int .i64 (w64 (vt8 + 1)), .int .i64 vt16, .tuple #[.slice A31 vt24.length c32, .int .i64 vt25], .int .u64 seed1, .int .i64 vt8, .int .i64 vt8, .tuple #[.slice A31 vt24.length c32, .int .i64 vt25], .slice A31 vt24.length c32, .int .i64 vt25, .tuple #[.slice A45 vt38.length c46, .int .i64 vt39], .int .u64 seed1, .int .i64 vt8, .int .i64 vt16, .tuple #[.slice A45 vt38.length c46, .int .i64 vt39], .slice A45 vt38.length c46, .int .i64 vt39, .bool vt54, .bool true, .bool true, undef, undef, .bool true, .bool true, undef, undef, .bool true, .bool true, undef, undef, undef, undef, .bool true, .bool true, undef, undef, undef, undef, .bool true, .bool true, undef, undef, undef, undef, undef, undef, .bool true, undef, undef, undef, undef, undef, undef, undef, undef, undef, undef, undef, undef, undef], []⟩) (by kernel_rfl) ?_
    refine wpList_nil ?_
    refine hK53 _ _ ?_
    refine condT (by kernel_rfl) ?_
    refine wp_seq_k (fun K61 hK62 => ?_)
    refine wp_region_lit ?_
    refine seqS1 (a' := ⟨#[.int .u64 seed1, .int .i64 vt8, .int .i64 vt16, undef, undef, undef, .bool false, .slice A31 vt24.length c32, .int .i64 vt25, .slice A45 vt38.length c46, .int .i64 vt39, undef, undef, .int .i64 n2, .int .i64 vt8, .int .i64 vk3, .int .i64 vt8, .int .i64 (w64 (vt8 + 1)), .int .i64 vt16, .tuple #[.slice A31 vt24.length c32, .int .i64 vt25], .int .u64 seed1, .int .i64 vt8, .int .i64 vt8, .tuple #[.slice A31 vt24.length c32, .int .i64 vt25], .slice A31 vt24.length c32, .int .i64 vt25, .tuple #[.slice A45 vt38.length c46, .int .i64 vt39], .int .u64 seed1, .int .i64 vt8, .int .i64 vt16, .tuple #[.slice A45 vt38.length c46, .int .i64 vt39], .slice A45 vt38.length c46, .int .i64 vt39, .bool vt54, .bool true, .bool true, undef, undef, .bool true, .bool true, undef, undef, .bool true, .bool true, undef, undef, undef, undef, .bool true, .bool true, undef, undef, undef, undef, .bool true, .bool true, undef, undef, undef, undef, undef, undef, .bool true, undef, undef, undef, undef, undef, undef, undef, undef, undef, undef, undef, undef, undef], []⟩) (by kernel_rfl) ?_
    refine wpList_nil ?_
    refine hK62 _ _ ?_
    refine wp_ret ?_
    refine hret _ _ ?_
    refine ends_still (v := Value.bool false) (by kernel_rfl) (by kernel_rfl) ?_
    have HS176 := HS59.drop
    have HS177 := HS176.drop
    injection h with h
    subst h
    exact ⟨f56, rfl, (L11.trans (L19.trans (L28.trans (L42.trans L57)))), HS177⟩
  · have c60 : ¬ (¬ (vt54 = true)) := c60
    refine seqRwI 34 (x := (!vt54)) (v := false) (by kernel_rfl) (congrArg (fun b_ => !b_) (show vt54 = true from (Decidable.of_not_not c60)) : (!vt54) = false) ?_
    refine seqRwI 35 (x := (!vt54)) (v := false) (by kernel_rfl) (congrArg (fun b_ => !b_) (show vt54 = true from (Decidable.of_not_not c60)) : (!vt54) = false) ?_
    refine seqS4 (a' := ⟨#[.int .u64 seed1, .int .i64 vt8, .int .i64 vt16, undef, undef, undef, .bool false, .slice A31 vt24.length c32, .int .i64 vt25, .slice A45 vt38.length c46, .int .i64 vt39, undef, undef, .int .i64 n2, .int .i64 vt8, .int .i64 vk3, .int .i64 vt8, .int .i64 (w64 (vt8 + 1)), .int .i64 vt16, .tuple #[.slice A31 vt24.length c32, .int .i64 vt25], .int .u64 seed1, .int .i64 vt8, .int .i64 vt8, .tuple #[.slice A31 vt24.length c32, .int .i64 vt25], .slice A31 vt24.length c32, .int .i64 vt25, .tuple #[.slice A45 vt38.length c46, .int .i64 vt39], .int .u64 seed1, .int .i64 vt8, .int .i64 vt16, .tuple #[.slice A45 vt38.length c46, .int .i64 vt39], .slice A45 vt38.length c46, .int .i64 vt39, .bool vt54, .bool false, .bool false, .int .i64 vt25, .bool (vt25 != 0), .bool (vt25 != 0), .bool (vt25 != 0), undef, undef, undef, undef, undef, undef, undef, undef, undef, undef, undef, undef, undef, undef, undef, undef, undef, undef, undef, undef, undef, undef, undef, undef, undef, undef, undef, undef, undef, undef, undef, undef, undef, undef, undef, undef], []⟩) (by kernel_rfl) ?_
    have hq_ := ite_some h; clear h; rcases hq_ with ⟨c63, h⟩ | ⟨c63, h⟩
    · have c63 : vt25 ≠ 0 := c63
      refine seqRwI 37 (x := (vt25 != 0)) (v := true) (by kernel_rfl) (bne_iff_ne.mpr c63) ?_
      refine seqRwI 38 (x := (vt25 != 0)) (v := true) (by kernel_rfl) (bne_iff_ne.mpr c63) ?_
      refine seqRwI 39 (x := (vt25 != 0)) (v := true) (by kernel_rfl) (bne_iff_ne.mpr c63) ?_
      refine seqS23 (a' := ⟨#[.int .u64 seed1, .int .i64 vt8, .int .i64 vt16, undef, undef, undef, .bool false, .slice A31 vt24.length c32, .int .i64 vt25, .slice A45 vt38.length c46, .int .i64 vt39, undef, undef, .int .i64 n2, .int .i64 vt8, .int .i64 vk3, .int .i64 vt8, .int .i64 (w64 (vt8 + 1)), .int .i64 vt16, .tuple #[.slice A31 vt24.length c32, .int .i64 vt25], .int .u64 seed1, .int .i64 vt8, .int .i64 vt8, .tuple #[.slice A31 vt24.length c32, .int .i64 vt25], .slice A31 vt24.length c32, .int .i64 vt25, .tuple #[.slice A45 vt38.length c46, .int .i64 vt39], .int .u64 seed1, .int .i64 vt8, .int .i64 vt16, .tuple #[.slice A45 vt38.length c46, .int .i64 vt39], .slice A45 vt38.length c46, .int .i64 vt39, .bool vt54, .bool false, .bool false, .int .i64 vt25, .bool true, .bool true, .bool true, undef, undef, .bool true, .bool true, undef, undef, undef, undef, .bool true, .bool true, undef, undef, undef, undef, .bool true, .bool true, undef, undef, undef, undef, undef, undef, .bool true, undef, undef, undef, undef, undef, undef, undef, undef, undef, undef, undef, undef, undef], []⟩) (by kernel_rfl) ?_
      refine wpList_nil ?_
      refine hK53 _ _ ?_
      refine condT (by kernel_rfl) ?_
      refine wp_seq_k (fun K64 hK65 => ?_)
      refine wp_region_lit ?_
      refine seqS1 (a' := ⟨#[.int .u64 seed1, .int .i64 vt8, .int .i64 vt16, undef, undef, undef, .bool false, .slice A31 vt24.length c32, .int .i64 vt25, .slice A45 vt38.length c46, .int .i64 vt39, undef, undef, .int .i64 n2, .int .i64 vt8, .int .i64 vk3, .int .i64 vt8, .int .i64 (w64 (vt8 + 1)), .int .i64 vt16, .tuple #[.slice A31 vt24.length c32, .int .i64 vt25], .int .u64 seed1, .int .i64 vt8, .int .i64 vt8, .tuple #[.slice A31 vt24.length c32, .int .i64 vt25], .slice A31 vt24.length c32, .int .i64 vt25, .tuple #[.slice A45 vt38.length c46, .int .i64 vt39], .int .u64 seed1, .int .i64 vt8, .int .i64 vt16, .tuple #[.slice A45 vt38.length c46, .int .i64 vt39], .slice A45 vt38.length c46, .int .i64 vt39, .bool vt54, .bool false, .bool false, .int .i64 vt25, .bool true, .bool true, .bool true, undef, undef, .bool true, .bool true, undef, undef, undef, undef, .bool true, .bool true, undef, undef, undef, undef, .bool true, .bool true, undef, undef, undef, undef, undef, undef, .bool true, undef, undef, undef, undef, undef, undef, undef, undef, undef, undef, undef, undef, undef], []⟩) (by kernel_rfl) ?_
      refine wpList_nil ?_
      refine hK65 _ _ ?_
      refine wp_ret ?_
      refine hret _ _ ?_
      refine ends_still (v := Value.bool false) (by kernel_rfl) (by kernel_rfl) ?_
      have HS178 := HS59.drop
      have HS179 := HS178.drop
      injection h with h
      subst h
      exact ⟨f56, rfl, (L11.trans (L19.trans (L28.trans (L42.trans L57)))), HS179⟩
    · have c63 : ¬ (vt25 ≠ 0) := c63
      refine seqRwI 37 (x := (vt25 != 0)) (v := false) (by kernel_rfl) (bne_eq_false_iff_eq.mpr (Decidable.of_not_not c63)) ?_
      refine seqRwI 38 (x := (vt25 != 0)) (v := false) (by kernel_rfl) (bne_eq_false_iff_eq.mpr (Decidable.of_not_not c63)) ?_
      refine seqRwI 39 (x := (vt25 != 0)) (v := false) (by kernel_rfl) (bne_eq_false_iff_eq.mpr (Decidable.of_not_not c63)) ?_
      refine seqS4 (a' := ⟨#[.int .u64 seed1, .int .i64 vt8, .int .i64 vt16, undef, undef, undef, .bool false, .slice A31 vt24.length c32, .int .i64 vt25, .slice A45 vt38.length c46, .int .i64 vt39, undef, undef, .int .i64 n2, .int .i64 vt8, .int .i64 vk3, .int .i64 vt8, .int .i64 (w64 (vt8 + 1)), .int .i64 vt16, .tuple #[.slice A31 vt24.length c32, .int .i64 vt25], .int .u64 seed1, .int .i64 vt8, .int .i64 vt8, .tuple #[.slice A31 vt24.length c32, .int .i64 vt25], .slice A31 vt24.length c32, .int .i64 vt25, .tuple #[.slice A45 vt38.length c46, .int .i64 vt39], .int .u64 seed1, .int .i64 vt8, .int .i64 vt16, .tuple #[.slice A45 vt38.length c46, .int .i64 vt39], .slice A45 vt38.length c46, .int .i64 vt39, .bool vt54, .bool false, .bool false, .int .i64 vt25, .bool false, .bool false, .bool false, .int .i64 vt39, .bool (vt39 != 0), .bool (vt39 != 0), .bool (vt39 != 0), undef, undef, undef, undef, undef, undef, undef, undef, undef, undef, undef, undef, undef, undef, undef, undef, undef, undef, undef, undef, undef, undef, undef, undef, undef, undef, undef, undef, undef, undef, undef, undef], []⟩) (by kernel_rfl) ?_
      have hq_ := ite_some h; clear h; rcases hq_ with ⟨c66, h⟩ | ⟨c66, h⟩
      · have c66 : vt39 ≠ 0 := c66
        refine seqRwI 41 (x := (vt39 != 0)) (v := true) (by kernel_rfl) (bne_iff_ne.mpr c66) ?_
        refine seqRwI 42 (x := (vt39 != 0)) (v := true) (by kernel_rfl) (bne_iff_ne.mpr c66) ?_
        refine seqRwI 43 (x := (vt39 != 0)) (v := true) (by kernel_rfl) (bne_iff_ne.mpr c66) ?_
        refine seqS19 (a' := ⟨#[.int .u64 seed1, .int .i64 vt8, .int .i64 vt16, undef, undef, undef, .bool false, .slice A31 vt24.length c32, .int .i64 vt25, .slice A45 vt38.length c46, .int .i64 vt39, undef, undef, .int .i64 n2, .int .i64 vt8, .int .i64 vk3, .int .i64 vt8, .int .i64 (w64 (vt8 + 1)), .int .i64 vt16, .tuple #[.slice A31 vt24.length c32, .int .i64 vt25], .int .u64 seed1, .int .i64 vt8, .int .i64 vt8, .tuple #[.slice A31 vt24.length c32, .int .i64 vt25], .slice A31 vt24.length c32, .int .i64 vt25, .tuple #[.slice A45 vt38.length c46, .int .i64 vt39], .int .u64 seed1, .int .i64 vt8, .int .i64 vt16, .tuple #[.slice A45 vt38.length c46, .int .i64 vt39], .slice A45 vt38.length c46, .int .i64 vt39, .bool vt54, .bool false, .bool false, .int .i64 vt25, .bool false, .bool false, .bool false, .int .i64 vt39, .bool true, .bool true, .bool true, undef, undef, undef, undef, .bool true, .bool true, undef, undef, undef, undef, .bool true, .bool true, undef, undef, undef, undef, undef, undef, .bool true, undef, undef, undef, undef, undef, undef, undef, undef, undef, undef, undef, undef, undef], []⟩) (by kernel_rfl) ?_
        refine wpList_nil ?_
        refine hK53 _ _ ?_
        refine condT (by kernel_rfl) ?_
        refine wp_seq_k (fun K67 hK68 => ?_)
        refine wp_region_lit ?_
        refine seqS1 (a' := ⟨#[.int .u64 seed1, .int .i64 vt8, .int .i64 vt16, undef, undef, undef, .bool false, .slice A31 vt24.length c32, .int .i64 vt25, .slice A45 vt38.length c46, .int .i64 vt39, undef, undef, .int .i64 n2, .int .i64 vt8, .int .i64 vk3, .int .i64 vt8, .int .i64 (w64 (vt8 + 1)), .int .i64 vt16, .tuple #[.slice A31 vt24.length c32, .int .i64 vt25], .int .u64 seed1, .int .i64 vt8, .int .i64 vt8, .tuple #[.slice A31 vt24.length c32, .int .i64 vt25], .slice A31 vt24.length c32, .int .i64 vt25, .tuple #[.slice A45 vt38.length c46, .int .i64 vt39], .int .u64 seed1, .int .i64 vt8, .int .i64 vt16, .tuple #[.slice A45 vt38.length c46, .int .i64 vt39], .slice A45 vt38.length c46, .int .i64 vt39, .bool vt54, .bool false, .bool false, .int .i64 vt25, .bool false, .bool false, .bool false, .int .i64 vt39, .bool true, .bool true, .bool true, undef, undef, undef, undef, .bool true, .bool true, undef, undef, undef, undef, .bool true, .bool true, undef, undef, undef, undef, undef, undef, .bool true, undef, undef, undef, undef, undef, undef, undef, undef, undef, undef, undef, undef, undef], []⟩) (by kernel_rfl) ?_
        refine wpList_nil ?_
        refine hK68 _ _ ?_
        refine wp_ret ?_
        refine hret _ _ ?_
        refine ends_still (v := Value.bool false) (by kernel_rfl) (by kernel_rfl) ?_
        have HS180 := HS59.drop
        have HS181 := HS180.drop
        injection h with h
        subst h
        exact ⟨f56, rfl, (L11.trans (L19.trans (L28.trans (L42.trans L57)))), HS181⟩
      · have c66 : ¬ (vt39 ≠ 0) := c66
        refine seqRwI 41 (x := (vt39 != 0)) (v := false) (by kernel_rfl) (bne_eq_false_iff_eq.mpr (Decidable.of_not_not c66)) ?_
        refine seqRwI 42 (x := (vt39 != 0)) (v := false) (by kernel_rfl) (bne_eq_false_iff_eq.mpr (Decidable.of_not_not c66)) ?_
        refine seqRwI 43 (x := (vt39 != 0)) (v := false) (by kernel_rfl) (bne_eq_false_iff_eq.mpr (Decidable.of_not_not c66)) ?_
        refine seqS6 (a' := ⟨#[.int .u64 seed1, .int .i64 vt8, .int .i64 vt16, undef, undef, undef, .bool false, .slice A31 vt24.length c32, .int .i64 vt25, .slice A45 vt38.length c46, .int .i64 vt39, undef, undef, .int .i64 n2, .int .i64 vt8, .int .i64 vk3, .int .i64 vt8, .int .i64 (w64 (vt8 + 1)), .int .i64 vt16, .tuple #[.slice A31 vt24.length c32, .int .i64 vt25], .int .u64 seed1, .int .i64 vt8, .int .i64 vt8, .tuple #[.slice A31 vt24.length c32, .int .i64 vt25], .slice A31 vt24.length c32, .int .i64 vt25, .tuple #[.slice A45 vt38.length c46, .int .i64 vt39], .int .u64 seed1, .int .i64 vt8, .int .i64 vt16, .tuple #[.slice A45 vt38.length c46, .int .i64 vt39], .slice A45 vt38.length c46, .int .i64 vt39, .bool vt54, .bool false, .bool false, .int .i64 vt25, .bool false, .bool false, .bool false, .int .i64 vt39, .bool false, .bool false, .bool false, .slice A45 vt38.length c46, .int .i64 (vt38.length : Int), .int .i64 vt16, .bool ((vt38.length : Int) != vt16), .bool ((vt38.length : Int) != vt16), .bool ((vt38.length : Int) != vt16), undef, undef, undef, undef, undef, undef, undef, undef, undef, undef, undef, undef, undef, undef, undef, undef, undef, undef, undef, undef, undef, undef, undef, undef, undef, undef], []⟩) (by kernel_rfl) ?_
        have hq_ := ite_some h; clear h; rcases hq_ with ⟨c69, h⟩ | ⟨c69, h⟩
        · have c69 : (vt38.length : Int) ≠ vt16 := c69
          refine seqRwI 47 (x := ((vt38.length : Int) != vt16)) (v := true) (by kernel_rfl) (bne_iff_ne.mpr c69) ?_
          refine seqRwI 48 (x := ((vt38.length : Int) != vt16)) (v := true) (by kernel_rfl) (bne_iff_ne.mpr c69) ?_
          refine seqRwI 49 (x := ((vt38.length : Int) != vt16)) (v := true) (by kernel_rfl) (bne_iff_ne.mpr c69) ?_
          refine seqS13 (a' := ⟨#[.int .u64 seed1, .int .i64 vt8, .int .i64 vt16, undef, undef, undef, .bool false, .slice A31 vt24.length c32, .int .i64 vt25, .slice A45 vt38.length c46, .int .i64 vt39, undef, undef, .int .i64 n2, .int .i64 vt8, .int .i64 vk3, .int .i64 vt8, .int .i64 (w64 (vt8 + 1)), .int .i64 vt16, .tuple #[.slice A31 vt24.length c32, .int .i64 vt25], .int .u64 seed1, .int .i64 vt8, .int .i64 vt8, .tuple #[.slice A31 vt24.length c32, .int .i64 vt25], .slice A31 vt24.length c32, .int .i64 vt25, .tuple #[.slice A45 vt38.length c46, .int .i64 vt39], .int .u64 seed1, .int .i64 vt8, .int .i64 vt16, .tuple #[.slice A45 vt38.length c46, .int .i64 vt39], .slice A45 vt38.length c46, .int .i64 vt39, .bool vt54, .bool false, .bool false, .int .i64 vt25, .bool false, .bool false, .bool false, .int .i64 vt39, .bool false, .bool false, .bool false, .slice A45 vt38.length c46, .int .i64 (vt38.length : Int), .int .i64 vt16, .bool true, .bool true, .bool true, undef, undef, undef, undef, .bool true, .bool true, undef, undef, undef, undef, undef, undef, .bool true, undef, undef, undef, undef, undef, undef, undef, undef, undef, undef, undef, undef, undef], []⟩) (by kernel_rfl) ?_
          refine wpList_nil ?_
          refine hK53 _ _ ?_
          refine condT (by kernel_rfl) ?_
          refine wp_seq_k (fun K70 hK71 => ?_)
          refine wp_region_lit ?_
          refine seqS1 (a' := ⟨#[.int .u64 seed1, .int .i64 vt8, .int .i64 vt16, undef, undef, undef, .bool false, .slice A31 vt24.length c32, .int .i64 vt25, .slice A45 vt38.length c46, .int .i64 vt39, undef, undef, .int .i64 n2, .int .i64 vt8, .int .i64 vk3, .int .i64 vt8, .int .i64 (w64 (vt8 + 1)), .int .i64 vt16, .tuple #[.slice A31 vt24.length c32, .int .i64 vt25], .int .u64 seed1, .int .i64 vt8, .int .i64 vt8, .tuple #[.slice A31 vt24.length c32, .int .i64 vt25], .slice A31 vt24.length c32, .int .i64 vt25, .tuple #[.slice A45 vt38.length c46, .int .i64 vt39], .int .u64 seed1, .int .i64 vt8, .int .i64 vt16, .tuple #[.slice A45 vt38.length c46, .int .i64 vt39], .slice A45 vt38.length c46, .int .i64 vt39, .bool vt54, .bool false, .bool false, .int .i64 vt25, .bool false, .bool false, .bool false, .int .i64 vt39, .bool false, .bool false, .bool false, .slice A45 vt38.length c46, .int .i64 (vt38.length : Int), .int .i64 vt16, .bool true, .bool true, .bool true, undef, undef, undef, undef, .bool true, .bool true, undef, undef, undef, undef, undef, undef, .bool true, undef, undef, undef, undef, undef, undef, undef, undef, undef, undef, undef, undef, undef], []⟩) (by kernel_rfl) ?_
          refine wpList_nil ?_
          refine hK71 _ _ ?_
          refine wp_ret ?_
          refine hret _ _ ?_
          refine ends_still (v := Value.bool false) (by kernel_rfl) (by kernel_rfl) ?_
          have HS182 := HS59.drop
          have HS183 := HS182.drop
          injection h with h
          subst h
          exact ⟨f56, rfl, (L11.trans (L19.trans (L28.trans (L42.trans L57)))), HS183⟩
        · have c69 : ¬ ((vt38.length : Int) ≠ vt16) := c69
          refine seqRwI 47 (x := ((vt38.length : Int) != vt16)) (v := false) (by kernel_rfl) (bne_eq_false_iff_eq.mpr (Decidable.of_not_not c69)) ?_
          refine seqRwI 48 (x := ((vt38.length : Int) != vt16)) (v := false) (by kernel_rfl) (bne_eq_false_iff_eq.mpr (Decidable.of_not_not c69)) ?_
          refine seqRwI 49 (x := ((vt38.length : Int) != vt16)) (v := false) (by kernel_rfl) (bne_eq_false_iff_eq.mpr (Decidable.of_not_not c69)) ?_
          refine seqS6 (a' := ⟨#[.int .u64 seed1, .int .i64 vt8, .int .i64 vt16, undef, undef, undef, .bool false, .slice A31 vt24.length c32, .int .i64 vt25, .slice A45 vt38.length c46, .int .i64 vt39, undef, undef, .int .i64 n2, .int .i64 vt8, .int .i64 vk3, .int .i64 vt8, .int .i64 (w64 (vt8 + 1)), .int .i64 vt16, .tuple #[.slice A31 vt24.length c32, .int .i64 vt25], .int .u64 seed1, .int .i64 vt8, .int .i64 vt8, .tuple #[.slice A31 vt24.length c32, .int .i64 vt25], .slice A31 vt24.length c32, .int .i64 vt25, .tuple #[.slice A45 vt38.length c46, .int .i64 vt39], .int .u64 seed1, .int .i64 vt8, .int .i64 vt16, .tuple #[.slice A45 vt38.length c46, .int .i64 vt39], .slice A45 vt38.length c46, .int .i64 vt39, .bool vt54, .bool false, .bool false, .int .i64 vt25, .bool false, .bool false, .bool false, .int .i64 vt39, .bool false, .bool false, .bool false, .slice A45 vt38.length c46, .int .i64 (vt38.length : Int), .int .i64 vt16, .bool false, .bool false, .bool false, .slice A31 vt24.length c32, .int .i64 (vt24.length : Int), .int .i64 vt8, .bool ((vt24.length : Int) != vt8), .bool ((vt24.length : Int) != vt8), .bool ((vt24.length : Int) != vt8), undef, undef, undef, undef, undef, undef, undef, undef, undef, undef, undef, undef, undef, undef, undef, undef, undef, undef, undef, undef], []⟩) (by kernel_rfl) ?_
          have hq_ := ite_some h; clear h; rcases hq_ with ⟨c72, h⟩ | ⟨c72, h⟩
          · have c72 : (vt24.length : Int) ≠ vt8 := c72
            refine seqRwI 53 (x := ((vt24.length : Int) != vt8)) (v := true) (by kernel_rfl) (bne_iff_ne.mpr c72) ?_
            refine seqRwI 54 (x := ((vt24.length : Int) != vt8)) (v := true) (by kernel_rfl) (bne_iff_ne.mpr c72) ?_
            refine seqRwI 55 (x := ((vt24.length : Int) != vt8)) (v := true) (by kernel_rfl) (bne_iff_ne.mpr c72) ?_
            refine seqS7 (a' := ⟨#[.int .u64 seed1, .int .i64 vt8, .int .i64 vt16, undef, undef, undef, .bool false, .slice A31 vt24.length c32, .int .i64 vt25, .slice A45 vt38.length c46, .int .i64 vt39, undef, undef, .int .i64 n2, .int .i64 vt8, .int .i64 vk3, .int .i64 vt8, .int .i64 (w64 (vt8 + 1)), .int .i64 vt16, .tuple #[.slice A31 vt24.length c32, .int .i64 vt25], .int .u64 seed1, .int .i64 vt8, .int .i64 vt8, .tuple #[.slice A31 vt24.length c32, .int .i64 vt25], .slice A31 vt24.length c32, .int .i64 vt25, .tuple #[.slice A45 vt38.length c46, .int .i64 vt39], .int .u64 seed1, .int .i64 vt8, .int .i64 vt16, .tuple #[.slice A45 vt38.length c46, .int .i64 vt39], .slice A45 vt38.length c46, .int .i64 vt39, .bool vt54, .bool false, .bool false, .int .i64 vt25, .bool false, .bool false, .bool false, .int .i64 vt39, .bool false, .bool false, .bool false, .slice A45 vt38.length c46, .int .i64 (vt38.length : Int), .int .i64 vt16, .bool false, .bool false, .bool false, .slice A31 vt24.length c32, .int .i64 (vt24.length : Int), .int .i64 vt8, .bool true, .bool true, .bool true, undef, undef, undef, undef, undef, undef, .bool true, undef, undef, undef, undef, undef, undef, undef, undef, undef, undef, undef, undef, undef], []⟩) (by kernel_rfl) ?_
            refine wpList_nil ?_
            refine hK53 _ _ ?_
            refine condT (by kernel_rfl) ?_
            refine wp_seq_k (fun K73 hK74 => ?_)
            refine wp_region_lit ?_
            refine seqS1 (a' := ⟨#[.int .u64 seed1, .int .i64 vt8, .int .i64 vt16, undef, undef, undef, .bool false, .slice A31 vt24.length c32, .int .i64 vt25, .slice A45 vt38.length c46, .int .i64 vt39, undef, undef, .int .i64 n2, .int .i64 vt8, .int .i64 vk3, .int .i64 vt8, .int .i64 (w64 (vt8 + 1)), .int .i64 vt16, .tuple #[.slice A31 vt24.length c32, .int .i64 vt25], .int .u64 seed1, .int .i64 vt8, .int .i64 vt8, .tuple #[.slice A31 vt24.length c32, .int .i64 vt25], .slice A31 vt24.length c32, .int .i64 vt25, .tuple #[.slice A45 vt38.length c46, .int .i64 vt39], .int .u64 seed1, .int .i64 vt8, .int .i64 vt16, .tuple #[.slice A45 vt38.length c46, .int .i64 vt39], .slice A45 vt38.length c46, .int .i64 vt39, .bool vt54, .bool false, .bool false, .int .i64 vt25, .bool false, .bool false, .bool false, .int .i64 vt39, .bool false, .bool false, .bool false, .slice A45 vt38.length c46, .int .i64 (vt38.length : Int), .int .i64 vt16, .bool false, .bool false, .bool false, .slice A31 vt24.length c32, .int .i64 (vt24.length : Int), .int .i64 vt8, .bool true, .bool true, .bool true, undef, undef, undef, undef, undef, undef, .bool true, undef, undef, undef, undef, undef, undef, undef, undef, undef, undef, undef, undef, undef], []⟩) (by kernel_rfl) ?_
            refine wpList_nil ?_
            refine hK74 _ _ ?_
            refine wp_ret ?_
            refine hret _ _ ?_
            refine ends_still (v := Value.bool false) (by kernel_rfl) (by kernel_rfl) ?_
            have HS184 := HS59.drop
            have HS185 := HS184.drop
            injection h with h
            subst h
            exact ⟨f56, rfl, (L11.trans (L19.trans (L28.trans (L42.trans L57)))), HS185⟩
          · have c72 : ¬ ((vt24.length : Int) ≠ vt8) := c72
            refine seqRwI 53 (x := ((vt24.length : Int) != vt8)) (v := false) (by kernel_rfl) (bne_eq_false_iff_eq.mpr (Decidable.of_not_not c72)) ?_
            refine seqRwI 54 (x := ((vt24.length : Int) != vt8)) (v := false) (by kernel_rfl) (bne_eq_false_iff_eq.mpr (Decidable.of_not_not c72)) ?_
            refine seqRwI 55 (x := ((vt24.length : Int) != vt8)) (v := false) (by kernel_rfl) (bne_eq_false_iff_eq.mpr (Decidable.of_not_not c72)) ?_
            have hq_ := guard_some h; clear h; obtain ⟨c75, h⟩ := hq_
            have c75 : 0 ≤ vt16 := c75
            have hq_ := guard_some h; clear h; obtain ⟨c76, h⟩ := hq_
            have c76 : vt16 ≤ (vt24.length : Int) := c76
            refine seqL3 (by kernel_rfl) ?_
            refine seqG (by kernel_rfl) (does_run (run_cutH (e := (tInt .i64)) (xs := vt24) rfl Try.underlying40 (by kernel_rfl) (by kernel_rfl : _ = Value.slice A31 vt24.length c32) (by kernel_rfl : _ = Value.int .i64 vt16) c75 c76 HO34.le W58) ?_)
            obtain ⟨f77, L78, HS79, HR80, th81⟩ := (HO48.mono L57).lend HS59
            obtain ⟨f82, L83, HS84, HR85, th86⟩ := ((HO34.take (vt16).toNat).mono (L42.trans (L57.trans L78))).lend HS79
            have hq_ := bind_some h; clear h; obtain ⟨vt87, hc88, h⟩ := hq_
            refine seqG (by kernel_rfl) (does_call (f := 29) (args := #[.slice A45 vt38.length c46, .slice A31 (vt24.take (vt16).toNat).length c32]) (by kernel_rfl) (slices_Equal_int.calls k A45 c46 A31 c32 vt38 (vt24.take (vt16).toNat) HS84 (HR80.mono L83) HR85 vt87 hc88) ?_)
            rintro _ W91 ⟨f89, rfl, L90, HS92⟩
            refine ⟨_, rfl, ?_⟩
            obtain ⟨f93, L94, HS95⟩ := th86 L90 HS92
            obtain ⟨f96, L97, HS98⟩ := th81 L94 HS95
            refine seqS2 (a' := ⟨#[.int .u64 seed1, .int .i64 vt8, .int .i64 vt16, undef, undef, undef, .bool false, .slice A31 vt24.length c32, .int .i64 vt25, .slice A45 vt38.length c46, .int .i64 vt39, undef, undef, .int .i64 n2, .int .i64 vt8, .int .i64 vk3, .int .i64 vt8, .int .i64 (w64 (vt8 + 1)), .int .i64 vt16, .tuple #[.slice A31 vt24.length c32, .int .i64 vt25], .int .u64 seed1, .int .i64 vt8, .int .i64 vt8, .tuple #[.slice A31 vt24.length c32, .int .i64 vt25], .slice A31 vt24.length c32, .int .i64 vt25, .tuple #[.slice A45 vt38.length c46, .int .i64 vt39], .int .u64 seed1, .int .i64 vt8, .int .i64 vt16, .tuple #[.slice A45 vt38.length c46, .int .i64 vt39], .slice A45 vt38.length c46, .int .i64 vt39, .bool vt54, .bool false, .bool false, .int .i64 vt25, .bool false, .bool false, .bool false, .int .i64 vt39, .bool false, .bool false, .bool false, .slice A45 vt38.length c46, .int .i64 (vt38.length : Int), .int .i64 vt16, .bool false, .bool false, .bool false, .slice A31 vt24.length c32, .int .i64 (vt24.length : Int), .int .i64 vt8, .bool false, .bool false, .bool false, .slice A45 vt38.length c46, .slice A31 vt24.length c32, .int .i64 vt16, .slice A31 (vt24.take (vt16).toNat).length c32, .bool vt87, .bool (!vt87), .bool (!vt87), undef, undef, undef, undef, undef, undef, undef, undef, undef, undef, undef, undef, undef], []⟩) (by kernel_rfl) ?_
            refine wpList_nil ?_
            refine hK53 _ _ ?_
            have hq_ := ite_some h; clear h; rcases hq_ with ⟨c100, h⟩ | ⟨c100, h⟩
            · have c100 : ¬ (vt87 = true) := c100
              refine wpRwI 61 (x := (!vt87)) (v := true) (by kernel_rfl) (congrArg (fun b_ => !b_) (show vt87 = false from (Bool.eq_false_iff.mpr c100)) : (!vt87) = true) ?_
              refine wpRwI 62 (x := (!vt87)) (v := true) (by kernel_rfl) (congrArg (fun b_ => !b_) (show vt87 = false from (Bool.eq_false_iff.mpr c100)) : (!vt87) = true) ?_
              refine condT (by kernel_rfl) ?_
              refine wp_seq_k (fun K101 hK102 => ?_)
              refine wp_region_lit ?_
              refine seqS1 (a' := ⟨#[.int .u64 seed1, .int .i64 vt8, .int .i64 vt16, undef, undef, undef, .bool false, .slice A31 vt24.length c32, .int .i64 vt25, .slice A45 vt38.length c46, .int .i64 vt39, undef, undef, .int .i64 n2, .int .i64 vt8, .int .i64 vk3, .int .i64 vt8, .int .i64 (w64 (vt8 + 1)), .int .i64 vt16, .tuple #[.slice A31 vt24.length c32, .int .i64 vt25], .int .u64 seed1, .int .i64 vt8, .int .i64 vt8, .tuple #[.slice A31 vt24.length c32, .int .i64 vt25], .slice A31 vt24.length c32, .int .i64 vt25, .tuple #[.slice A45 vt38.length c46, .int .i64 vt39], .int .u64 seed1, .int .i64 vt8, .int .i64 vt16, .tuple #[.slice A45 vt38.length c46, .int .i64 vt39], .slice A45 vt38.length c46, .int .i64 vt39, .bool vt54, .bool false, .bool false, .int .i64 vt25, .bool false, .bool false, .bool false, .int .i64 vt39, .bool false, .bool false, .bool false, .slice A45 vt38.length c46, .int .i64 (vt38.length : Int), .int .i64 vt16, .bool false, .bool false, .bool false, .slice A31 vt24.length c32, .int .i64 (vt24.length : Int), .int .i64 vt8, .bool false, .bool false, .bool false, .slice A45 vt38.length c46, .slice A31 vt24.length c32, .int .i64 vt16, .slice A31 (vt24.take (vt16).toNat).length c32, .bool vt87, .bool true, .bool true, undef, undef, undef, undef, undef, undef, undef, undef, undef, undef, undef, undef, undef], []⟩) (by kernel_rfl) ?_
              refine wpList_nil ?_
              refine hK102 _ _ ?_
              refine wp_ret ?_
              refine hret _ _ ?_
              refine ends_still (v := Value.bool false) (by kernel_rfl) (by kernel_rfl) ?_
              have HS186 := HS98.drop
              have HS187 := HS186.drop
              injection h with h
              subst h
              exact ⟨f96, rfl, (L11.trans (L19.trans (L28.trans (L42.trans (L57.trans L97))))), HS187⟩
            · have c100 : ¬ (¬ (vt87 = true)) := c100
              refine wpRwI 61 (x := (!vt87)) (v := false) (by kernel_rfl) (congrArg (fun b_ => !b_) (show vt87 = true from (Decidable.of_not_not c100)) : (!vt87) = false) ?_
              refine wpRwI 62 (x := (!vt87)) (v := false) (by kernel_rfl) (congrArg (fun b_ => !b_) (show vt87 = true from (Decidable.of_not_not c100)) : (!vt87) = false) ?_
              refine condF (by kernel_rfl) ?_
              refine wp_skip ?_
              refine hK51 _ _ ?_
              refine wp_seq_k (fun K103 hK104 => ?_)
              refine wp_region_lit ?_
              have HS105 := HS98.u1
              have hq_ := bind_some h; clear h; obtain ⟨vt106, hc107, h⟩ := hq_
              refine seqL1 (by kernel_rfl) ?_
              refine seqK rfl (does_call (f := 30) (args := #[.slice A31 vt24.length c32]) (by kernel_rfl) (slices_Sort_int.calls k A31 c32 s33 vt24 HS105 (HO34.mono (L42.trans (L57.trans L97))) vt106 hc107) ?_)
              rintro _ W110 ⟨f108, s112, rfl, L109, HS111, HO113, HL114⟩
              refine ⟨_, rfl, ?_⟩
              refine seqRwS 7 (A := A31) (m := vt24.length) (n := vt106.length) (c := c32) (by kernel_rfl) (HL114).symm ?_
              refine seqRwS 24 (A := A31) (m := vt24.length) (n := vt106.length) (c := c32) (by kernel_rfl) (HL114).symm ?_
              refine seqRwS 50 (A := A31) (m := vt24.length) (n := vt106.length) (c := c32) (by kernel_rfl) (HL114).symm ?_
              refine seqRwS 57 (A := A31) (m := vt24.length) (n := vt106.length) (c := c32) (by kernel_rfl) (HL114).symm ?_
              refine seqRwS 63 (A := A31) (m := vt24.length) (n := vt106.length) (c := c32) (by kernel_rfl) (HL114).symm ?_
              refine wpList_nil ?_
              refine hK104 _ _ ?_
              refine wp_seq_k (fun K115 hK116 => ?_)
              refine wp_seq_k (fun K117 hK118 => ?_)
              refine wp_region_lit ?_
              refine seqS3 (a' := ⟨#[.int .u64 seed1, .int .i64 vt8, .int .i64 vt16, undef, undef, undef, .bool false, .slice A31 vt106.length c32, .int .i64 vt25, .slice A45 vt38.length c46, .int .i64 vt39, undef, undef, .int .i64 n2, .int .i64 vt8, .int .i64 vk3, .int .i64 vt8, .int .i64 (w64 (vt8 + 1)), .int .i64 vt16, .tuple #[.slice A31 vt24.length c32, .int .i64 vt25], .int .u64 seed1, .int .i64 vt8, .int .i64 vt8, .tuple #[.slice A31 vt24.length c32, .int .i64 vt25], .slice A31 vt106.length c32, .int .i64 vt25, .tuple #[.slice A45 vt38.length c46, .int .i64 vt39], .int .u64 seed1, .int .i64 vt8, .int .i64 vt16, .tuple #[.slice A45 vt38.length c46, .int .i64 vt39], .slice A45 vt38.length c46, .int .i64 vt39, .bool vt54, .bool false, .bool false, .int .i64 vt25, .bool false, .bool false, .bool false, .int .i64 vt39, .bool false, .bool false, .bool false, .slice A45 vt38.length c46, .int .i64 (vt38.length : Int), .int .i64 vt16, .bool false, .bool false, .bool false, .slice A31 vt106.length c32, .int .i64 (vt24.length : Int), .int .i64 vt8, .bool false, .bool false, .bool false, .slice A45 vt38.length c46, .slice A31 vt106.length c32, .int .i64 vt16, .slice A31 (vt24.take (vt16).toNat).length c32, .bool vt87, .bool false, .bool false, .slice A31 vt106.length c32, .tuple #[], .slice A31 vt106.length c32, .int .i64 (vt106.length : Int), .int .i64 0, undef, undef, undef, undef, undef, undef, undef, undef], []⟩) (by kernel_rfl) ?_
              refine wpList_nil ?_
              refine hK118 _ _ ?_
              refine blockK (fun B119 hx120 hn121 hr122 ho123 hp124 => ?_)
              have hq_ := bind_some h; clear h; obtain ⟨o125, hv170, h⟩ := hq_
              have JR172 : ∀ z_, some (Sum.inl z_) = some o125 → some z_ = some r1 := by
                intro z_ e_; injection e_ with e_; subst e_; exact h
              have J171 : ∀ (f165 : FM) (j169 : Nat → Value) (W167 : World) (a_ : Act), FM.le f108 f165 → some (Sum.inr ()) = some o125 → St t W167 f165 (s112 :: s47 :: H) → a_ = ⟨#[.int .u64 seed1, .int .i64 vt8, .int .i64 vt16, undef, undef, undef, (j169 0), .slice A31 vt106.length c32, .int .i64 vt25, .slice A45 vt38.length c46, .int .i64 vt39, (j169 1), (j169 2), .int .i64 n2, .int .i64 vt8, .int .i64 vk3, .int .i64 vt8, .int .i64 (w64 (vt8 + 1)), .int .i64 vt16, .tuple #[.slice A31 vt24.length c32, .int .i64 vt25], .int .u64 seed1, .int .i64 vt8, .int .i64 vt8, .tuple #[.slice A31 vt24.length c32, .int .i64 vt25], .slice A31 vt106.length c32, .int .i64 vt25, .tuple #[.slice A45 vt38.length c46, .int .i64 vt39], .int .u64 seed1, .int .i64 vt8, .int .i64 vt16, .tuple #[.slice A45 vt38.length c46, .int .i64 vt39], .slice A45 vt38.length c46, .int .i64 vt39, .bool vt54, .bool false, .bool false, .int .i64 vt25, .bool false, .bool false, .bool false, .int .i64 vt39, .bool false, .bool false, .bool false, .slice A45 vt38.length c46, .int .i64 (vt38.length : Int), .int .i64 vt16, .bool false, .bool false, .bool false, .slice A31 vt106.length c32, .int .i64 (vt24.length : Int), .int .i64 vt8, .bool false, .bool false, .bool false, .slice A45 vt38.length c46, .slice A31 vt106.length c32, .int .i64 vt16, .slice A31 (vt24.take (vt16).toNat).length c32, .bool vt87, .bool false, .bool false, .slice A31 vt106.length c32, .tuple #[], .slice A31 vt106.length c32, .int .i64 (vt106.length : Int), (j169 3), (j169 4), (j169 5), (j169 6), (j169 7), (j169 8), (j169 9), (j169 10), (j169 11)], []⟩ → K115 a_ W167 := by
                intro f165 j169 W167 a_ L166 hj173 HS168  hfr_; subst hfr_
                injection hj173 with hj173; subst hj173; try dsimp only at h
                simp only [Sum.elim_inr] at h
                refine hK116 _ _ ?_
                refine wp_seq_k (fun K174 hK175 => ?_)
                refine wp_region_lit ?_
                refine seqS1 (a' := ⟨#[.int .u64 seed1, .int .i64 vt8, .int .i64 vt16, undef, undef, undef, .bool true, .slice A31 vt106.length c32, .int .i64 vt25, .slice A45 vt38.length c46, .int .i64 vt39, (j169 1), (j169 2), .int .i64 n2, .int .i64 vt8, .int .i64 vk3, .int .i64 vt8, .int .i64 (w64 (vt8 + 1)), .int .i64 vt16, .tuple #[.slice A31 vt24.length c32, .int .i64 vt25], .int .u64 seed1, .int .i64 vt8, .int .i64 vt8, .tuple #[.slice A31 vt24.length c32, .int .i64 vt25], .slice A31 vt106.length c32, .int .i64 vt25, .tuple #[.slice A45 vt38.length c46, .int .i64 vt39], .int .u64 seed1, .int .i64 vt8, .int .i64 vt16, .tuple #[.slice A45 vt38.length c46, .int .i64 vt39], .slice A45 vt38.length c46, .int .i64 vt39, .bool vt54, .bool false, .bool false, .int .i64 vt25, .bool false, .bool false, .bool false, .int .i64 vt39, .bool false, .bool false, .bool false, .slice A45 vt38.length c46, .int .i64 (vt38.length : Int), .int .i64 vt16, .bool false, .bool false, .bool false, .slice A31 vt106.length c32, .int .i64 (vt24.length : Int), .int .i64 vt8, .bool false, .bool false, .bool false, .slice A45 vt38.length c46, .slice A31 vt106.length c32, .int .i64 vt16, .slice A31 (vt24.take (vt16).toNat).length c32, .bool vt87, .bool false, .bool false, .slice A31 vt106.length c32, .tuple #[], .slice A31 vt106.length c32, .int .i64 (vt106.length : Int), (j169 3), (j169 4), (j169 5), (j169 6), (j169 7), (j169 8), (j169 9), (j169 10), (j169 11)], []⟩) (by kernel_rfl) ?_
                refine wpList_nil ?_
                refine hK175 _ _ ?_
                refine wp_ret ?_
                refine hret _ _ ?_
                refine ends_still (v := Value.bool true) (by kernel_rfl) (by kernel_rfl) ?_
                have HS190 := HS168.drop
                have HS191 := HS190.drop
                injection h with h
                subst h
                exact ⟨f165, rfl, (L11.trans (L19.trans (L28.trans (L42.trans (L57.trans (L97.trans (L109.trans L166))))))), HS191⟩
              clear h; have h := hv170; clear hv170
              refine loopK (fun n_ a_ w_ => ∃ (f129 : FM) (x134 : Int) (j133 : Nat → Value), FM.le f108 f129 ∧ St t w_ f129 (s112 :: s47 :: H) ∧ spykeep3_QuantaDecksDiffer.l0 k vt106 n_ x134 = some o125 ∧ a_ = ⟨#[.int .u64 seed1, .int .i64 vt8, .int .i64 vt16, undef, undef, undef, (j133 0), .slice A31 vt106.length c32, .int .i64 vt25, .slice A45 vt38.length c46, .int .i64 vt39, (j133 1), (j133 2), .int .i64 n2, .int .i64 vt8, .int .i64 vk3, .int .i64 vt8, .int .i64 (w64 (vt8 + 1)), .int .i64 vt16, .tuple #[.slice A31 vt24.length c32, .int .i64 vt25], .int .u64 seed1, .int .i64 vt8, .int .i64 vt8, .tuple #[.slice A31 vt24.length c32, .int .i64 vt25], .slice A31 vt106.length c32, .int .i64 vt25, .tuple #[.slice A45 vt38.length c46, .int .i64 vt39], .int .u64 seed1, .int .i64 vt8, .int .i64 vt16, .tuple #[.slice A45 vt38.length c46, .int .i64 vt39], .slice A45 vt38.length c46, .int .i64 vt39, .bool vt54, .bool false, .bool false, .int .i64 vt25, .bool false, .bool false, .bool false, .int .i64 vt39, .bool false, .bool false, .bool false, .slice A45 vt38.length c46, .int .i64 (vt38.length : Int), .int .i64 vt16, .bool false, .bool false, .bool false, .slice A31 vt106.length c32, .int .i64 (vt24.length : Int), .int .i64 vt8, .bool false, .bool false, .bool false, .slice A45 vt38.length c46, .slice A31 vt106.length c32, .int .i64 vt16, .slice A31 (vt24.take (vt16).toNat).length c32, .bool vt87, .bool false, .bool false, .slice A31 vt106.length c32, .tuple #[], .slice A31 vt106.length c32, .int .i64 (vt106.length : Int), .int .i64 x134, (j133 3), (j133 4), (j133 5), (j133 6), (j133 7), (j133 8), (j133 9), (j133 10)], []⟩) k ⟨f108, 0, (fun i_ => [Value.bool false, undef, undef, undef, undef, undef, undef, undef, undef, undef, undef].getD i_ undef), (FM.le.refl _), HS111, h, (by kernel_rfl)⟩ ?_
              clear h
              rintro n128 _ W131 ⟨f129, x134, j133, L130, HS132, h, rfl⟩ K126 hK127
              obtain _ | n128 := n128
              · exact nomatch h
              simp only [spykeep3_QuantaDecksDiffer.l0] at h
              refine wp_seq_k (fun K135 hK136 => ?_)
              refine wp_region_lit ?_
              refine seqS1 (a' := ⟨#[.int .u64 seed1, .int .i64 vt8, .int .i64 vt16, undef, undef, undef, (j133 0), .slice A31 vt106.length c32, .int .i64 vt25, .slice A45 vt38.length c46, .int .i64 vt39, (j133 1), (j133 2), .int .i64 n2, .int .i64 vt8, .int .i64 vk3, .int .i64 vt8, .int .i64 (w64 (vt8 + 1)), .int .i64 vt16, .tuple #[.slice A31 vt24.length c32, .int .i64 vt25], .int .u64 seed1, .int .i64 vt8, .int .i64 vt8, .tuple #[.slice A31 vt24.length c32, .int .i64 vt25], .slice A31 vt106.length c32, .int .i64 vt25, .tuple #[.slice A45 vt38.length c46, .int .i64 vt39], .int .u64 seed1, .int .i64 vt8, .int .i64 vt16, .tuple #[.slice A45 vt38.length c46, .int .i64 vt39], .slice A45 vt38.length c46, .int .i64 vt39, .bool vt54, .bool false, .bool false, .int .i64 vt25, .bool false, .bool false, .bool false, .int .i64 vt39, .bool false, .bool false, .bool false, .slice A45 vt38.length c46, .int .i64 (vt38.length : Int), .int .i64 vt16, .bool false, .bool false, .bool false, .slice A31 vt106.length c32, .int .i64 (vt24.length : Int), .int .i64 vt8, .bool false, .bool false, .bool false, .slice A45 vt38.length c46, .slice A31 vt106.length c32, .int .i64 vt16, .slice A31 (vt24.take (vt16).toNat).length c32, .bool vt87, .bool false, .bool false, .slice A31 vt106.length c32, .tuple #[], .slice A31 vt106.length c32, .int .i64 (vt106.length : Int), .int .i64 x134, .bool (decide (x134 < (vt106.length : Int))), (j133 4), (j133 5), (j133 6), (j133 7), (j133 8), (j133 9), (j133 10)], []⟩) (by kernel_rfl) ?_
              refine wpList_nil ?_
              refine hK136 _ _ ?_
              refine wp_seq_k (fun K137 hK138 => ?_)
              have hq_ := ite_some h; clear h; rcases hq_ with ⟨c140, h⟩ | ⟨c140, h⟩
              · have c140 : x134 < (vt106.length : Int) := c140
                refine wpRwI 68 (x := (decide (x134 < (vt106.length : Int)))) (v := true) (by kernel_rfl) (decide_eq_true c140) ?_
                refine condT (by kernel_rfl) ?_
                refine wp_skip ?_
                refine hK138 _ _ ?_
                refine wp_seq_k (fun K141 hK142 => ?_)
                refine blockK (fun B143 hx144 hn145 hr146 ho147 hp148 => ?_)
                refine wp_seq_k (fun K150 hK151 => ?_)
                refine wp_region_lit ?_
                have hq_ := guard_some h; clear h; obtain ⟨c152, h⟩ := hq_
                have c152 : 0 ≤ x134 := c152
                obtain ⟨b156, of157, cs153, hA158, hr154, hc155⟩ := (HO113.mono L130).at (i := x134) c152 c140
                obtain rfl := hr154
                refine seqL1 (by kernel_rfl) ?_
                refine seqK rfl (does_run (run_indexE hA158 (sz := 1) rfl Try.underlying40 (by kernel_rfl) (by kernel_rfl : _ = Value.slice A31 vt106.length c32) (by kernel_rfl : _ = Value.int .i64 x134) c152 c140 W131) ?_)
                refine seqK rfl (does_run (run_load rfl Try.underlying3 rfl (by kernel_rfl : _ = Value.pointer (some ⟨b156, of157 + (x134 : Int).toNat * 1, none⟩)) ((hc155 HS132) 0 (by decide))) ?_)
                refine seqS2 (a' := ⟨#[.int .u64 seed1, .int .i64 vt8, .int .i64 vt16, undef, undef, undef, (j133 0), .slice A31 vt106.length c32, .int .i64 vt25, .slice A45 vt38.length c46, .int .i64 vt39, .int .i64 x134, .int .i64 (rd vt106 x134), .int .i64 n2, .int .i64 vt8, .int .i64 vk3, .int .i64 vt8, .int .i64 (w64 (vt8 + 1)), .int .i64 vt16, .tuple #[.slice A31 vt24.length c32, .int .i64 vt25], .int .u64 seed1, .int .i64 vt8, .int .i64 vt8, .tuple #[.slice A31 vt24.length c32, .int .i64 vt25], .slice A31 vt106.length c32, .int .i64 vt25, .tuple #[.slice A45 vt38.length c46, .int .i64 vt39], .int .u64 seed1, .int .i64 vt8, .int .i64 vt16, .tuple #[.slice A45 vt38.length c46, .int .i64 vt39], .slice A45 vt38.length c46, .int .i64 vt39, .bool vt54, .bool false, .bool false, .int .i64 vt25, .bool false, .bool false, .bool false, .int .i64 vt39, .bool false, .bool false, .bool false, .slice A45 vt38.length c46, .int .i64 (vt38.length : Int), .int .i64 vt16, .bool false, .bool false, .bool false, .slice A31 vt106.length c32, .int .i64 (vt24.length : Int), .int .i64 vt8, .bool false, .bool false, .bool false, .slice A45 vt38.length c46, .slice A31 vt106.length c32, .int .i64 vt16, .slice A31 (vt24.take (vt16).toNat).length c32, .bool vt87, .bool false, .bool false, .slice A31 vt106.length c32, .tuple #[], .slice A31 vt106.length c32, .int .i64 (vt106.length : Int), .int .i64 x134, .bool true, .int .i64 x134, .pointer (some ⟨b156, of157 + (x134 : Int).toNat * 1, none⟩), .int .i64 (rd vt106 x134), (j133 7), (j133 8), (j133 9), (j133 10)], []⟩) (by kernel_rfl) ?_
                refine wpList_nil ?_
                refine hK151 _ _ ?_
                refine wp_seq_k (fun K159 hK160 => ?_)
                refine wp_region_lit ?_
                refine seqS3 (a' := ⟨#[.int .u64 seed1, .int .i64 vt8, .int .i64 vt16, undef, undef, undef, (j133 0), .slice A31 vt106.length c32, .int .i64 vt25, .slice A45 vt38.length c46, .int .i64 vt39, .int .i64 x134, .int .i64 (rd vt106 x134), .int .i64 n2, .int .i64 vt8, .int .i64 vk3, .int .i64 vt8, .int .i64 (w64 (vt8 + 1)), .int .i64 vt16, .tuple #[.slice A31 vt24.length c32, .int .i64 vt25], .int .u64 seed1, .int .i64 vt8, .int .i64 vt8, .tuple #[.slice A31 vt24.length c32, .int .i64 vt25], .slice A31 vt106.length c32, .int .i64 vt25, .tuple #[.slice A45 vt38.length c46, .int .i64 vt39], .int .u64 seed1, .int .i64 vt8, .int .i64 vt16, .tuple #[.slice A45 vt38.length c46, .int .i64 vt39], .slice A45 vt38.length c46, .int .i64 vt39, .bool vt54, .bool false, .bool false, .int .i64 vt25, .bool false, .bool false, .bool false, .int .i64 vt39, .bool false, .bool false, .bool false, .slice A45 vt38.length c46, .int .i64 (vt38.length : Int), .int .i64 vt16, .bool false, .bool false, .bool false, .slice A31 vt106.length c32, .int .i64 (vt24.length : Int), .int .i64 vt8, .bool false, .bool false, .bool false, .slice A45 vt38.length c46, .slice A31 vt106.length c32, .int .i64 vt16, .slice A31 (vt24.take (vt16).toNat).length c32, .bool vt87, .bool false, .bool false, .slice A31 vt106.length c32, .tuple #[], .slice A31 vt106.length c32, .int .i64 (vt106.length : Int), .int .i64 x134, .bool true, .int .i64 x134, .pointer (some ⟨b156, of157 + (x134 : Int).toNat * 1, none⟩), .int .i64 (rd vt106 x134), .int .i64 (rd vt106 x134), .int .i64 x134, .bool ((rd vt106 x134) != x134), (j133 10)], []⟩) (by kernel_rfl) ?_
                refine wpList_nil ?_
                refine hK160 _ _ ?_
                have hq_ := ite_some h; clear h; rcases hq_ with ⟨c162, h⟩ | ⟨c162, h⟩
                · have c162 : (rd vt106 x134) ≠ x134 := c162
                  refine wpRwI 74 (x := ((rd vt106 x134) != x134)) (v := true) (by kernel_rfl) (bne_iff_ne.mpr c162) ?_
                  refine condT (by kernel_rfl) ?_
                  refine wp_seq_k (fun K163 hK164 => ?_)
                  refine wp_region_lit ?_
                  refine seqS1 (a' := ⟨#[.int .u64 seed1, .int .i64 vt8, .int .i64 vt16, undef, undef, undef, .bool false, .slice A31 vt106.length c32, .int .i64 vt25, .slice A45 vt38.length c46, .int .i64 vt39, .int .i64 x134, .int .i64 (rd vt106 x134), .int .i64 n2, .int .i64 vt8, .int .i64 vk3, .int .i64 vt8, .int .i64 (w64 (vt8 + 1)), .int .i64 vt16, .tuple #[.slice A31 vt24.length c32, .int .i64 vt25], .int .u64 seed1, .int .i64 vt8, .int .i64 vt8, .tuple #[.slice A31 vt24.length c32, .int .i64 vt25], .slice A31 vt106.length c32, .int .i64 vt25, .tuple #[.slice A45 vt38.length c46, .int .i64 vt39], .int .u64 seed1, .int .i64 vt8, .int .i64 vt16, .tuple #[.slice A45 vt38.length c46, .int .i64 vt39], .slice A45 vt38.length c46, .int .i64 vt39, .bool vt54, .bool false, .bool false, .int .i64 vt25, .bool false, .bool false, .bool false, .int .i64 vt39, .bool false, .bool false, .bool false, .slice A45 vt38.length c46, .int .i64 (vt38.length : Int), .int .i64 vt16, .bool false, .bool false, .bool false, .slice A31 vt106.length c32, .int .i64 (vt24.length : Int), .int .i64 vt8, .bool false, .bool false, .bool false, .slice A45 vt38.length c46, .slice A31 vt106.length c32, .int .i64 vt16, .slice A31 (vt24.take (vt16).toNat).length c32, .bool vt87, .bool false, .bool false, .slice A31 vt106.length c32, .tuple #[], .slice A31 vt106.length c32, .int .i64 (vt106.length : Int), .int .i64 x134, .bool true, .int .i64 x134, .pointer (some ⟨b156, of157 + (x134 : Int).toNat * 1, none⟩), .int .i64 (rd vt106 x134), .int .i64 (rd vt106 x134), .int .i64 x134, .bool true, (j133 10)], []⟩) (by kernel_rfl) ?_
                  refine wpList_nil ?_
                  refine hK164 _ _ ?_
                  refine wp_ret ?_
                  refine hr146 _ _ ?_
                  refine hr122 _ _ ?_
                  refine hret _ _ ?_
                  refine ends_still (v := Value.bool false) (by kernel_rfl) (by kernel_rfl) ?_
                  have HS188 := HS132.drop
                  have HS189 := HS188.drop
                  replace h := JR172 _ h
                  injection h with h
                  subst h
                  exact ⟨f129, rfl, (L11.trans (L19.trans (L28.trans (L42.trans (L57.trans (L97.trans (L109.trans L130))))))), HS189⟩
                · have c162 : ¬ ((rd vt106 x134) ≠ x134) := c162
                  refine wpRwI 74 (x := ((rd vt106 x134) != x134)) (v := false) (by kernel_rfl) (bne_eq_false_iff_eq.mpr (Decidable.of_not_not c162)) ?_
                  refine condF (by kernel_rfl) ?_
                  refine wp_skip ?_
                  refine hn145 _ _ ?_
                  refine hK142 _ _ ?_
                  refine wp_region_lit ?_
                  refine seqS2 (a' := ⟨#[.int .u64 seed1, .int .i64 vt8, .int .i64 vt16, undef, undef, undef, (j133 0), .slice A31 vt106.length c32, .int .i64 vt25, .slice A45 vt38.length c46, .int .i64 vt39, .int .i64 x134, .int .i64 (rd vt106 x134), .int .i64 n2, .int .i64 vt8, .int .i64 vk3, .int .i64 vt8, .int .i64 (w64 (vt8 + 1)), .int .i64 vt16, .tuple #[.slice A31 vt24.length c32, .int .i64 vt25], .int .u64 seed1, .int .i64 vt8, .int .i64 vt8, .tuple #[.slice A31 vt24.length c32, .int .i64 vt25], .slice A31 vt106.length c32, .int .i64 vt25, .tuple #[.slice A45 vt38.length c46, .int .i64 vt39], .int .u64 seed1, .int .i64 vt8, .int .i64 vt16, .tuple #[.slice A45 vt38.length c46, .int .i64 vt39], .slice A45 vt38.length c46, .int .i64 vt39, .bool vt54, .bool false, .bool false, .int .i64 vt25, .bool false, .bool false, .bool false, .int .i64 vt39, .bool false, .bool false, .bool false, .slice A45 vt38.length c46, .int .i64 (vt38.length : Int), .int .i64 vt16, .bool false, .bool false, .bool false, .slice A31 vt106.length c32, .int .i64 (vt24.length : Int), .int .i64 vt8, .bool false, .bool false, .bool false, .slice A45 vt38.length c46, .slice A31 vt106.length c32, .int .i64 vt16, .slice A31 (vt24.take (vt16).toNat).length c32, .bool vt87, .bool false, .bool false, .slice A31 vt106.length c32, .tuple #[], .slice A31 vt106.length c32, .int .i64 (vt106.length : Int), .int .i64 (w64 (x134 + 1)), .bool true, .int .i64 x134, .pointer (some ⟨b156, of157 + (x134 : Int).toNat * 1, none⟩), .int .i64 (rd vt106 x134), .int .i64 (rd vt106 x134), .int .i64 x134, .bool false, .int .i64 (w64 (x134 + 1))], []⟩) (by kernel_rfl) ?_
                  refine wpList_nil ?_
                  refine hK127 n128 _ _ (Nat.lt_succ_self _) ?_
                  exact ⟨f129, (w64 (x134 + 1)), (fun i_ => [(j133 0), Value.int .i64 x134, Value.int .i64 (rd vt106 x134), Value.bool true, Value.int .i64 x134, Value.pointer (some ⟨b156, of157 + (x134 : Int).toNat * 1, none⟩), Value.int .i64 (rd vt106 x134), Value.int .i64 (rd vt106 x134), Value.int .i64 x134, Value.bool false, Value.int .i64 (w64 (x134 + 1))].getD i_ undef), L130, HS132, h, (by kernel_rfl)⟩
              · have c140 : ¬ (x134 < (vt106.length : Int)) := c140
                refine wpRwI 68 (x := (decide (x134 < (vt106.length : Int)))) (v := false) (by kernel_rfl) (decide_eq_false c140) ?_
                refine condF (by kernel_rfl) ?_
                refine wp_exit ?_
                refine hx120 _ _ ?_
                exact J171 f129 (fun i_ => [(j133 0), (j133 1), (j133 2), Value.int .i64 x134, Value.bool false, (j133 4), (j133 5), (j133 6), (j133 7), (j133 8), (j133 9), (j133 10)].getD i_ undef) W131 _ L130 h HS132 (by kernel_rfl)

end Go.Sp.Q9
