import Derived.Test.YtdogeeomknanpaaProg
import Derived.Test.YtdogeeomknanpaaSpCopy
import Derived.Test.YtdogeeomknanpaaFT8
import Derived.Test.YtdogeeomknanpaaSpSort
import Derived.Test.YtdogeeomknanpaaShelf
import Derived.Test.YtdogeeomknanpaaKT8n0
namespace Go.Sp.T8
open Go Go.Sp Go.Proofs
set_option linter.unusedVariables false
attribute [local irreducible] wpList AnyL Code.wp Calls Does
set_option maxRecDepth 100000 in
set_option maxHeartbeats 4000000 in
theorem slices_rotateCmpFunc_int__level_known_1.calls (k : Nat) (b1 : Nat) (A4 : Option Addr) (c5 : Nat) (A7 : Option Addr) (c8 : Nat) (s9 : Seg) (v3 : S_Cells) (data11 : List Int) (a13 : Int) (m14 : Int) (b15 : Int) {t w : World} {f : FM} {H : List Seg} (HS : St t w f ([(b1, .cells #[.int .i64 v3.W, .int .i64 v3.H, .slice A4 v3.At.length c5] 34 (0, 0))] :: s9 :: H)) (HR6 : SlR ty_Bound f A4 c5 v3.At) (HO10 : Own (tInt .i64) 3 f A7 c8 s9 data11) (r1 : List Int) (h : slices_rotateCmpFunc_int__level_known_1 k v3 data11 a13 m14 b15 = some r1) :
    Calls Try.prog 145 #[.slice A7 data11.length c8, .int .i64 a13, .int .i64 m14, .int .i64 b15, .func (.func 99) #[] #[.pointer (some ⟨b1, 0, none⟩)]] w (fun e w' => ∃ (g : FM) (s164 : Seg), e = .returned (Value.tuple #[]) ∧ FM.le f g ∧ St t w' g ([(b1, .cells #[.int .i64 v3.W, .int .i64 v3.H, .slice A4 v3.At.length c5] 34 (0, 0))] :: s164 :: H) ∧ Own (tInt .i64) 3 g A7 c8 s164 r1 ∧ r1.length = data11.length) := by
  unfold slices_rotateCmpFunc_int__level_known_1 at h
  refine enter Try.func145 rfl (tm := #[.slice A7 data11.length c8, iV a13, iV m14, iV b15, .func (.func 99) #[] #[.pointer (some ⟨b1, 0, none⟩)], uV, uV, uV, uV, uV, uV, uV, uV, uV, uV, uV, uV, uV, uV, uV, uV, uV, uV, uV, uV, uV, uV, uV, uV, uV, uV, uV, uV, uV, uV, uV, uV, uV, uV, uV, uV, uV, uV, uV, uV, uV, uV, uV, uV, uV, uV, uV, uV, uV, uV, uV, uV, uV]) (by kernel_rfl) ?_
  intro B hret hnor hnp
  refine wp_seq_k (fun K16 hK17 => ?_)
  refine wp_region_lit ?_
  refine seqS4 (a' := ⟨#[.slice A7 data11.length c8, iV a13, iV m14, iV b15, .func (.func 99) #[] #[.pointer (some ⟨b1, 0, none⟩)], uV, uV, uV, uV, uV, iV (w64 (m14 - a13)), uV, iV m14, iV a13, iV (w64 (m14 - a13)), uV, uV, uV, uV, uV, uV, uV, uV, uV, uV, uV, uV, uV, uV, uV, uV, uV, uV, uV, uV, uV, uV, uV, uV, uV, uV, uV, uV, uV, uV, uV, uV, uV, uV, uV, uV, uV, uV, uV, uV, uV, uV, uV], []⟩) (by kernel_rfl) ?_
  refine wpList_nil ?_
  refine hK17 _ _ ?_
  refine wp_seq_k (fun K18 hK19 => ?_)
  refine wp_region_lit ?_
  refine seqS4 (a' := ⟨#[.slice A7 data11.length c8, iV a13, iV m14, iV b15, .func (.func 99) #[] #[.pointer (some ⟨b1, 0, none⟩)], uV, uV, uV, uV, uV, iV (w64 (m14 - a13)), iV (w64 (b15 - m14)), iV m14, iV a13, iV (w64 (m14 - a13)), iV b15, iV m14, iV (w64 (b15 - m14)), uV, uV, uV, uV, uV, uV, uV, uV, uV, uV, uV, uV, uV, uV, uV, uV, uV, uV, uV, uV, uV, uV, uV, uV, uV, uV, uV, uV, uV, uV, uV, uV, uV, uV, uV, uV, uV, uV, uV, uV], []⟩) (by kernel_rfl) ?_
  refine wpList_nil ?_
  refine hK19 _ _ ?_
  refine wp_seq_k (fun K20 hK21 => ?_)
  refine blockK (fun B22 hx23 hn24 hr25 ho26 hp27 => ?_)
  have hq_ := bind_some h; clear h; obtain ⟨o82, hv150, h⟩ := hq_
  have J151 : ∀ (f140 : FM) (s146 : Seg) (data145 : List Int) (i149 : Int) (j144 : Nat → Value) (W142 : World) (a_ : Act), FM.le f f140 → some ((data145, i149)) = some o82 → St t W142 f140 ([(b1, .cells #[.int .i64 v3.W, .int .i64 v3.H, .slice A4 v3.At.length c5] 34 (0, 0))] :: s146 :: H) → Own (tInt .i64) 3 f140 A7 c8 s146 data145 → data145.length = data11.length → a_ = ⟨#[.slice A7 data145.length c8, iV a13, iV m14, iV b15, .func (.func 99) #[] #[.pointer (some ⟨b1, 0, none⟩)], uV, uV, uV, uV, uV, iV i149, (j144 0), iV m14, iV a13, iV (w64 (m14 - a13)), iV b15, iV m14, iV (w64 (b15 - m14)), (j144 1), (j144 2), (j144 3), (j144 4), (j144 5), (j144 6), (j144 7), (j144 8), (j144 9), (j144 10), (j144 11), (j144 12), (j144 13), (j144 14), (j144 15), (j144 16), (j144 17), (j144 18), (j144 19), (j144 20), (j144 21), (j144 22), (j144 23), (j144 24), (j144 25), (j144 26), (j144 27), (j144 28), (j144 29), (j144 30), (j144 31), (j144 32), uV, uV, uV, uV, uV, uV, uV, uV], []⟩ → K20 a_ W142 := by
    intro f140 s146 data145 i149 j144 W142 a_ L141 hj152 HS143 HO147 HL148 hfr_; subst hfr_
    injection hj152 with hj152; subst hj152; try dsimp only at h
    refine hK21 _ _ ?_
    refine wp_region_lit ?_
    have HS153 := HS143.u1
    have HS154 := HS153.u1
    have hq_ := bind_some h; clear h; obtain ⟨vt155, hc156, h⟩ := hq_
    refine seqL7 (by kernel_rfl) ?_
    refine seqK rfl (does_call (f := 147) (args := #[.slice A7 data145.length c8, .int .i64 (w64 (m14 - i149)), .int .i64 m14, .int .i64 i149, .func (.func 99) #[] #[.pointer (some ⟨b1, 0, none⟩)]]) (by kernel_rfl) (slices_swapRangeCmpFunc_int__level_known_1.calls k b1 A4 c5 A7 c8 s146 v3 data145 (w64 (m14 - i149)) m14 i149 HS154 (HR6.mono L141) HO147 vt155 hc156) ?_)
    rintro _ W159 ⟨f157, s161, rfl, L158, HS160, HO162, HL163⟩
    refine ⟨_, rfl, ?_⟩
    refine seqRwS 0 (A := A7) (m := data145.length) (n := vt155.length) (c := c8) (by kernel_rfl) (HL163).symm ?_
    refine seqRwS 50 (A := A7) (m := data145.length) (n := vt155.length) (c := c8) (by kernel_rfl) (HL163).symm ?_
    refine wpList_nil ?_
    refine hnor _ _ ?_
    refine ends_still (v := Value.tuple #[]) (by kernel_rfl) (by kernel_rfl) ?_
    injection h with h
    subst h
    exact ⟨f157, s161, rfl, (L141.trans L158), HS160, HO162, (HL163.trans HL148)⟩
  clear h; have h := hv150; clear hv150
  refine loopK (fun n_ a_ w_ => ∃ (f86 : FM) (s92 : Seg) (data91 : List Int) (i95 : Int) (j96 : Int) (j90 : Nat → Value), FM.le f f86 ∧ St t w_ f86 ([(b1, .cells #[.int .i64 v3.W, .int .i64 v3.H, .slice A4 v3.At.length c5] 34 (0, 0))] :: s92 :: H) ∧ Own (tInt .i64) 3 f86 A7 c8 s92 data91 ∧ data91.length = data11.length ∧ slices_rotateCmpFunc_int__level_known_1.l0 k v3 m14 n_ data91 i95 j96 = some o82 ∧ a_ = ⟨#[.slice A7 data91.length c8, iV a13, iV m14, iV b15, .func (.func 99) #[] #[.pointer (some ⟨b1, 0, none⟩)], uV, uV, uV, uV, uV, iV i95, iV j96, iV m14, iV a13, iV (w64 (m14 - a13)), iV b15, iV m14, iV (w64 (b15 - m14)), (j90 0), (j90 1), (j90 2), (j90 3), (j90 4), (j90 5), (j90 6), (j90 7), (j90 8), (j90 9), (j90 10), (j90 11), (j90 12), (j90 13), (j90 14), (j90 15), (j90 16), (j90 17), (j90 18), (j90 19), (j90 20), (j90 21), (j90 22), (j90 23), (j90 24), (j90 25), (j90 26), (j90 27), (j90 28), (j90 29), (j90 30), (j90 31), uV, uV, uV, uV, uV, uV, uV, uV], []⟩) k ⟨f, s9, data11, (w64 (m14 - a13)), (w64 (b15 - m14)), (fun i_ => [undef, undef, undef, undef, undef, undef, undef, undef, undef, undef, undef, undef, undef, undef, undef, undef, undef, undef, undef, undef, undef, undef, undef, undef, undef, undef, undef, undef, undef, undef, undef, undef].getD i_ undef), (FM.le.refl _), HS, HO10, rfl, h, (by kernel_rfl)⟩ ?_
  clear h
  rintro n85 _ W88 ⟨f86, s92, data91, i95, j96, j90, L87, HS89, HO93, HL94, h, rfl⟩ K83 hK84
  obtain _ | n85 := n85
  · exact nomatch h
  simp only [slices_rotateCmpFunc_int__level_known_1.l0] at h
  refine wp_seq_k (fun K97 hK98 => ?_)
  refine wp_seq_k (fun K99 hK100 => ?_)
  refine wp_region_lit ?_
  refine seqS3 (a' := ⟨#[.slice A7 data91.length c8, iV a13, iV m14, iV b15, .func (.func 99) #[] #[.pointer (some ⟨b1, 0, none⟩)], uV, uV, uV, uV, uV, iV i95, iV j96, iV m14, iV a13, iV (w64 (m14 - a13)), iV b15, iV m14, iV (w64 (b15 - m14)), iV i95, iV j96, .bool (i95 != j96), (j90 3), (j90 4), (j90 5), (j90 6), (j90 7), (j90 8), (j90 9), (j90 10), (j90 11), (j90 12), (j90 13), (j90 14), (j90 15), (j90 16), (j90 17), (j90 18), (j90 19), (j90 20), (j90 21), (j90 22), (j90 23), (j90 24), (j90 25), (j90 26), (j90 27), (j90 28), (j90 29), (j90 30), (j90 31), uV, uV, uV, uV, uV, uV, uV, uV], []⟩) (by kernel_rfl) ?_
  refine wpList_nil ?_
  refine hK100 _ _ ?_
  have hq_ := ite_some h; clear h; rcases hq_ with ⟨c102, h⟩ | ⟨c102, h⟩
  · have c102 : i95 ≠ j96 := c102
    refine wpRwI 20 (x := (i95 != j96)) (v := true) (by kernel_rfl) (bne_iff_ne.mpr c102) ?_
    refine condT (by kernel_rfl) ?_
    refine wp_skip ?_
    refine hK98 _ _ ?_
    refine blockK (fun B103 hx104 hn105 hr106 ho107 hp108 => ?_)
    refine wp_seq_k (fun K110 hK111 => ?_)
    refine wp_region_lit ?_
    refine seqS3 (a' := ⟨#[.slice A7 data91.length c8, iV a13, iV m14, iV b15, .func (.func 99) #[] #[.pointer (some ⟨b1, 0, none⟩)], uV, uV, uV, uV, uV, iV i95, iV j96, iV m14, iV a13, iV (w64 (m14 - a13)), iV b15, iV m14, iV (w64 (b15 - m14)), iV i95, iV j96, .bool true, iV i95, iV j96, .bool (decide (i95 > j96)), (j90 6), (j90 7), (j90 8), (j90 9), (j90 10), (j90 11), (j90 12), (j90 13), (j90 14), (j90 15), (j90 16), (j90 17), (j90 18), (j90 19), (j90 20), (j90 21), (j90 22), (j90 23), (j90 24), (j90 25), (j90 26), (j90 27), (j90 28), (j90 29), (j90 30), (j90 31), uV, uV, uV, uV, uV, uV, uV, uV], []⟩) (by kernel_rfl) ?_
    refine wpList_nil ?_
    refine hK111 _ _ ?_
    have hq_ := ite_some h; clear h; rcases hq_ with ⟨c113, h⟩ | ⟨c113, h⟩
    · have c113 : i95 > j96 := c113
      refine wpRwI 23 (x := (decide (i95 > j96))) (v := true) (by kernel_rfl) (decide_eq_true c113) ?_
      refine condT (by kernel_rfl) ?_
      refine wp_seq_k (fun K114 hK115 => ?_)
      refine wp_region_lit ?_
      have HS116 := HS89.u1
      have HS117 := HS116.u1
      have hq_ := bind_some h; clear h; obtain ⟨vt118, hc119, h⟩ := hq_
      refine seqL7 (by kernel_rfl) ?_
      refine seqK rfl (does_call (f := 147) (args := #[.slice A7 data91.length c8, .int .i64 (w64 (m14 - i95)), .int .i64 m14, .int .i64 j96, .func (.func 99) #[] #[.pointer (some ⟨b1, 0, none⟩)]]) (by kernel_rfl) (slices_swapRangeCmpFunc_int__level_known_1.calls k b1 A4 c5 A7 c8 s92 v3 data91 (w64 (m14 - i95)) m14 j96 HS117 (HR6.mono L87) HO93 vt118 hc119) ?_)
      rintro _ W122 ⟨f120, s124, rfl, L121, HS123, HO125, HL126⟩
      refine ⟨_, rfl, ?_⟩
      refine seqRwS 0 (A := A7) (m := data91.length) (n := vt118.length) (c := c8) (by kernel_rfl) (HL126).symm ?_
      refine seqRwS 24 (A := A7) (m := data91.length) (n := vt118.length) (c := c8) (by kernel_rfl) (HL126).symm ?_
      refine wpList_nil ?_
      refine hK115 _ _ ?_
      refine wp_region_lit ?_
      refine seqS4 (a' := ⟨#[.slice A7 vt118.length c8, iV a13, iV m14, iV b15, .func (.func 99) #[] #[.pointer (some ⟨b1, 0, none⟩)], uV, uV, uV, uV, uV, iV (w64 (i95 - j96)), iV j96, iV m14, iV a13, iV (w64 (m14 - a13)), iV b15, iV m14, iV (w64 (b15 - m14)), iV i95, iV j96, .bool true, iV i95, iV j96, .bool true, .slice A7 vt118.length c8, iV m14, iV i95, iV (w64 (m14 - i95)), iV m14, iV j96, .func (.func 99) #[] #[.pointer (some ⟨b1, 0, none⟩)], .tuple #[], iV i95, iV j96, iV (w64 (i95 - j96)), (j90 17), (j90 18), (j90 19), (j90 20), (j90 21), (j90 22), (j90 23), (j90 24), (j90 25), (j90 26), (j90 27), (j90 28), (j90 29), (j90 30), (j90 31), uV, uV, uV, uV, uV, uV, uV, uV], []⟩) (by kernel_rfl) ?_
      refine wpList_nil ?_
      refine hn105 _ _ ?_
      refine hK84 n85 _ _ (Nat.lt_succ_self _) ?_
      exact ⟨f120, s124, vt118, (w64 (i95 - j96)), j96, (fun i_ => [Value.int .i64 i95, Value.int .i64 j96, Value.bool true, Value.int .i64 i95, Value.int .i64 j96, Value.bool true, Value.slice A7 vt118.length c8, Value.int .i64 m14, Value.int .i64 i95, Value.int .i64 (w64 (m14 - i95)), Value.int .i64 m14, Value.int .i64 j96, Value.func (.func 99) #[] #[.pointer (some ⟨b1, 0, none⟩)], Value.tuple #[], Value.int .i64 i95, Value.int .i64 j96, Value.int .i64 (w64 (i95 - j96)), (j90 17), (j90 18), (j90 19), (j90 20), (j90 21), (j90 22), (j90 23), (j90 24), (j90 25), (j90 26), (j90 27), (j90 28), (j90 29), (j90 30), (j90 31)].getD i_ undef), (L87.trans L121), HS123, HO125, (HL126.trans HL94), h, (by kernel_rfl)⟩
    · have c113 : ¬ (i95 > j96) := c113
      refine wpRwI 23 (x := (decide (i95 > j96))) (v := false) (by kernel_rfl) (decide_eq_false c113) ?_
      refine condF (by kernel_rfl) ?_
      refine wp_seq_k (fun K127 hK128 => ?_)
      refine wp_region_lit ?_
      have HS129 := HS89.u1
      have HS130 := HS129.u1
      have hq_ := bind_some h; clear h; obtain ⟨vt131, hc132, h⟩ := hq_
      refine seqL11 (by kernel_rfl) ?_
      refine seqK rfl (does_call (f := 147) (args := #[.slice A7 data91.length c8, .int .i64 (w64 (m14 - i95)), .int .i64 (w64 ((w64 (m14 + j96)) - i95)), .int .i64 i95, .func (.func 99) #[] #[.pointer (some ⟨b1, 0, none⟩)]]) (by kernel_rfl) (slices_swapRangeCmpFunc_int__level_known_1.calls k b1 A4 c5 A7 c8 s92 v3 data91 (w64 (m14 - i95)) (w64 ((w64 (m14 + j96)) - i95)) i95 HS130 (HR6.mono L87) HO93 vt131 hc132) ?_)
      rintro _ W135 ⟨f133, s137, rfl, L134, HS136, HO138, HL139⟩
      refine ⟨_, rfl, ?_⟩
      refine seqRwS 0 (A := A7) (m := data91.length) (n := vt131.length) (c := c8) (by kernel_rfl) (HL139).symm ?_
      refine seqRwS 35 (A := A7) (m := data91.length) (n := vt131.length) (c := c8) (by kernel_rfl) (HL139).symm ?_
      refine wpList_nil ?_
      refine hK128 _ _ ?_
      refine wp_region_lit ?_
      refine seqS4 (a' := ⟨#[.slice A7 vt131.length c8, iV a13, iV m14, iV b15, .func (.func 99) #[] #[.pointer (some ⟨b1, 0, none⟩)], uV, uV, uV, uV, uV, iV i95, iV (w64 (j96 - i95)), iV m14, iV a13, iV (w64 (m14 - a13)), iV b15, iV m14, iV (w64 (b15 - m14)), iV i95, iV j96, .bool true, iV i95, iV j96, .bool false, (j90 6), (j90 7), (j90 8), (j90 9), (j90 10), (j90 11), (j90 12), (j90 13), (j90 14), (j90 15), (j90 16), .slice A7 vt131.length c8, iV m14, iV i95, iV (w64 (m14 - i95)), iV m14, iV j96, iV (w64 (m14 + j96)), iV i95, iV (w64 ((w64 (m14 + j96)) - i95)), iV i95, .func (.func 99) #[] #[.pointer (some ⟨b1, 0, none⟩)], .tuple #[], iV j96, iV i95, iV (w64 (j96 - i95)), uV, uV, uV, uV, uV, uV, uV, uV], []⟩) (by kernel_rfl) ?_
      refine wpList_nil ?_
      refine hn105 _ _ ?_
      refine hK84 n85 _ _ (Nat.lt_succ_self _) ?_
      exact ⟨f133, s137, vt131, i95, (w64 (j96 - i95)), (fun i_ => [Value.int .i64 i95, Value.int .i64 j96, Value.bool true, Value.int .i64 i95, Value.int .i64 j96, Value.bool false, (j90 6), (j90 7), (j90 8), (j90 9), (j90 10), (j90 11), (j90 12), (j90 13), (j90 14), (j90 15), (j90 16), Value.slice A7 vt131.length c8, Value.int .i64 m14, Value.int .i64 i95, Value.int .i64 (w64 (m14 - i95)), Value.int .i64 m14, Value.int .i64 j96, Value.int .i64 (w64 (m14 + j96)), Value.int .i64 i95, Value.int .i64 (w64 ((w64 (m14 + j96)) - i95)), Value.int .i64 i95, Value.func (.func 99) #[] #[.pointer (some ⟨b1, 0, none⟩)], Value.tuple #[], Value.int .i64 j96, Value.int .i64 i95, Value.int .i64 (w64 (j96 - i95))].getD i_ undef), (L87.trans L134), HS136, HO138, (HL139.trans HL94), h, (by kernel_rfl)⟩
  · have c102 : ¬ (i95 ≠ j96) := c102
    refine wpRwI 20 (x := (i95 != j96)) (v := false) (by kernel_rfl) (bne_eq_false_iff_eq.mpr (Decidable.of_not_not c102)) ?_
    refine condF (by kernel_rfl) ?_
    refine wp_exit ?_
    refine hx23 _ _ ?_
    exact J151 f86 s92 data91 i95 (fun i_ => [Value.int .i64 j96, Value.int .i64 i95, Value.int .i64 j96, Value.bool false, (j90 3), (j90 4), (j90 5), (j90 6), (j90 7), (j90 8), (j90 9), (j90 10), (j90 11), (j90 12), (j90 13), (j90 14), (j90 15), (j90 16), (j90 17), (j90 18), (j90 19), (j90 20), (j90 21), (j90 22), (j90 23), (j90 24), (j90 25), (j90 26), (j90 27), (j90 28), (j90 29), (j90 30), (j90 31)].getD i_ undef) W88 _ L87 h HS89 HO93 HL94 (by kernel_rfl)

end Go.Sp.T8
