import Derived.Test.YtdogeeomknanpaaProg
import Derived.Test.YtdogeeomknanpaaSpCopy
import Derived.Test.YtdogeeomknanpaaFT9
import Derived.Test.YtdogeeomknanpaaSpSort
import Derived.Test.YtdogeeomknanpaaShelf
import Derived.Test.YtdogeeomknanpaaKT9n0
import Derived.Test.YtdogeeomknanpaaKT9n1
import Derived.Test.YtdogeeomknanpaaKT9n2
namespace Go.Sp.T9
open Go Go.Sp Go.Proofs
set_option linter.unusedVariables false
attribute [local irreducible] wpList AnyL Code.wp Calls Does
set_option maxRecDepth 100000 in
set_option maxHeartbeats 4000000 in
theorem slices_stableCmpFunc_int__level_known_1.calls (k : Nat) (b1 : Nat) (A4 : Option Addr) (c5 : Nat) (A7 : Option Addr) (c8 : Nat) (s9 : Seg) (v3 : S_Cells) (data11 : List Int) (n13 : Int) {t w : World} {f : FM} {H : List Seg} (HS : St t w f ([(b1, .cells #[.int .i64 v3.W, .int .i64 v3.H, .slice A4 v3.At.length c5] 34 (0, 0))] :: s9 :: H)) (HR6 : SlR ty_Bound f A4 c5 v3.At) (HO10 : Own (tInt .i64) 3 f A7 c8 s9 data11) (r1 : List Int) (h : slices_stableCmpFunc_int__level_known_1 k v3 data11 n13 = some r1) :
    Calls Try.prog 118 #[.slice A7 data11.length c8, .int .i64 n13, .func (.func 99) #[] #[.pointer (some ⟨b1, 0, none⟩)]] w (fun e w' => ∃ (g : FM) (s450 : Seg), e = .returned (Value.tuple #[]) ∧ FM.le f g ∧ St t w' g ([(b1, .cells #[.int .i64 v3.W, .int .i64 v3.H, .slice A4 v3.At.length c5] 34 (0, 0))] :: s450 :: H) ∧ Own (tInt .i64) 3 g A7 c8 s450 r1 ∧ r1.length = data11.length) := by
  unfold slices_stableCmpFunc_int__level_known_1 at h
  refine enter Try.func118 rfl (tm := #[.slice A7 data11.length c8, iV n13, .func (.func 99) #[] #[.pointer (some ⟨b1, 0, none⟩)], uV, uV, uV, uV, uV, uV, uV, uV, uV, uV, uV, uV, uV, uV, uV, uV, uV, uV, uV, uV, uV, uV, uV, uV, uV, uV, uV, uV, uV, uV, uV, uV, uV, uV, uV, uV, uV, uV, uV, uV, uV, uV, uV, uV, uV, uV, uV, uV, uV, uV, uV, uV, uV, uV, uV, uV, uV, uV, uV, uV]) (by kernel_rfl) ?_
  intro B hret hnor hnp
  refine wp_seq_k (fun K14 hK15 => ?_)
  refine wp_region_lit ?_
  refine seqS1 (a' := ⟨#[.slice A7 data11.length c8, iV n13, .func (.func 99) #[] #[.pointer (some ⟨b1, 0, none⟩)], uV, uV, uV, iV 20, uV, uV, uV, uV, uV, uV, uV, uV, uV, uV, uV, uV, uV, uV, uV, uV, uV, uV, uV, uV, uV, uV, uV, uV, uV, uV, uV, uV, uV, uV, uV, uV, uV, uV, uV, uV, uV, uV, uV, uV, uV, uV, uV, uV, uV, uV, uV, uV, uV, uV, uV, uV, uV, uV, uV, uV], []⟩) (by kernel_rfl) ?_
  refine wpList_nil ?_
  refine hK15 _ _ ?_
  refine wp_seq_k (fun K16 hK17 => ?_)
  refine wp_region_lit ?_
  refine seqS3 (a' := ⟨#[.slice A7 data11.length c8, iV n13, .func (.func 99) #[] #[.pointer (some ⟨b1, 0, none⟩)], uV, uV, uV, iV 20, iV 0, iV 20, uV, iV 20, uV, uV, uV, uV, uV, uV, uV, uV, uV, uV, uV, uV, uV, uV, uV, uV, uV, uV, uV, uV, uV, uV, uV, uV, uV, uV, uV, uV, uV, uV, uV, uV, uV, uV, uV, uV, uV, uV, uV, uV, uV, uV, uV, uV, uV, uV, uV, uV, uV, uV, uV, uV], []⟩) (by kernel_rfl) ?_
  refine wpList_nil ?_
  refine hK17 _ _ ?_
  refine wp_seq_k (fun K18 hK19 => ?_)
  refine blockK (fun B20 hx21 hn22 hr23 ho24 hp25 => ?_)
  have hq_ := bind_some h; clear h; obtain ⟨o65, hv118, h⟩ := hq_
  have J119 : ∀ (f108 : FM) (s114 : Seg) (data113 : List Int) (a117 : Int) (j112 : Nat → Value) (W110 : World) (a_ : Act), FM.le f f108 → some ((data113, a117)) = some o65 → St t W110 f108 ([(b1, .cells #[.int .i64 v3.W, .int .i64 v3.H, .slice A4 v3.At.length c5] 34 (0, 0))] :: s114 :: H) → Own (tInt .i64) 3 f108 A7 c8 s114 data113 → data113.length = data11.length → a_ = ⟨#[.slice A7 data113.length c8, iV n13, .func (.func 99) #[] #[.pointer (some ⟨b1, 0, none⟩)], uV, uV, uV, iV 20, iV a117, (j112 0), uV, iV 20, (j112 1), (j112 2), (j112 3), (j112 4), (j112 5), (j112 6), (j112 7), (j112 8), (j112 9), (j112 10), (j112 11), (j112 12), uV, uV, uV, uV, uV, uV, uV, uV, uV, uV, uV, uV, uV, uV, uV, uV, uV, uV, uV, uV, uV, uV, uV, uV, uV, uV, uV, uV, uV, uV, uV, uV, uV, uV, uV, uV, uV, uV, uV, uV], []⟩ → K18 a_ W110 := by
    intro f108 s114 data113 a117 j112 W110 a_ L109 hj120 HS111 HO115 HL116 hfr_; subst hfr_
    injection hj120 with hj120; subst hj120; try dsimp only at h
    refine hK19 _ _ ?_
    refine wp_seq_k (fun K121 hK122 => ?_)
    refine wp_region_lit ?_
    have HS123 := HS111.u1
    have HS124 := HS123.u1
    have hq_ := bind_some h; clear h; obtain ⟨vt125, hc126, h⟩ := hq_
    refine seqL4 (by kernel_rfl) ?_
    refine seqK rfl (does_call (f := 136) (args := #[.slice A7 data113.length c8, .int .i64 a117, .int .i64 n13, .func (.func 99) #[] #[.pointer (some ⟨b1, 0, none⟩)]]) (by kernel_rfl) (slices_insertionSortCmpFunc_int__level_known_1.calls k b1 A4 c5 A7 c8 s114 v3 data113 a117 n13 HS124 (HR6.mono L109) HO115 vt125 hc126) ?_)
    rintro _ W129 ⟨f127, s131, rfl, L128, HS130, HO132, HL133⟩
    refine ⟨_, rfl, ?_⟩
    refine seqRwS 0 (A := A7) (m := data113.length) (n := vt125.length) (c := c8) (by kernel_rfl) (HL133).symm ?_
    refine seqRwS 23 (A := A7) (m := data113.length) (n := vt125.length) (c := c8) (by kernel_rfl) (HL133).symm ?_
    refine wpList_nil ?_
    refine hK122 _ _ ?_
    refine blockK (fun B134 hx135 hn136 hr137 ho138 hp139 => ?_)
    have hq_ := bind_some h; clear h; obtain ⟨o287, hv447, h⟩ := hq_
    have J448 : ∀ (f438 : FM) (s444 : Seg) (data443 : List Int) (j442 : Nat → Value) (W440 : World) (a_ : Act), FM.le f127 f438 → some (data443) = some o287 → St t W440 f438 ([(b1, .cells #[.int .i64 v3.W, .int .i64 v3.H, .slice A4 v3.At.length c5] 34 (0, 0))] :: s444 :: H) → Own (tInt .i64) 3 f438 A7 c8 s444 data443 → data443.length = vt125.length → a_ = ⟨#[.slice A7 data443.length c8, iV n13, .func (.func 99) #[] #[.pointer (some ⟨b1, 0, none⟩)], uV, uV, uV, (j442 0), (j442 1), (j442 2), (j442 3), iV 20, (j112 1), (j112 2), (j112 3), (j112 4), (j112 5), (j112 6), (j112 7), (j112 8), (j112 9), (j112 10), (j112 11), (j112 12), (j442 4), iV a117, iV n13, .func (.func 99) #[] #[.pointer (some ⟨b1, 0, none⟩)], .tuple #[], (j442 5), (j442 6), (j442 7), (j442 8), (j442 9), (j442 10), (j442 11), (j442 12), (j442 13), (j442 14), (j442 15), (j442 16), (j442 17), (j442 18), (j442 19), (j442 20), (j442 21), (j442 22), (j442 23), (j442 24), (j442 25), (j442 26), (j442 27), (j442 28), (j442 29), (j442 30), (j442 31), (j442 32), (j442 33), (j442 34), (j442 35), (j442 36), (j442 37), (j442 38), (j442 39)], []⟩ → B Exit.normal a_ W440 := by
      intro f438 s444 data443 j442 W440 a_ L439 hj449 HS441 HO445 HL446 hfr_; subst hfr_
      injection hj449 with hj449; subst hj449; try dsimp only at h
      refine hnor _ _ ?_
      refine ends_still (v := Value.tuple #[]) (by kernel_rfl) (by kernel_rfl) ?_
      injection h with h
      subst h
      exact ⟨f438, s444, rfl, (L109.trans (L128.trans L439)), HS441, HO445, (HL446.trans (HL133.trans HL116))⟩
    clear h; have h := hv447; clear hv447
    refine loopK (fun n_ a_ w_ => ∃ (f291 : FM) (s297 : Seg) (data296 : List Int) (blockSize300 : Int) (j295 : Nat → Value), FM.le f127 f291 ∧ St t w_ f291 ([(b1, .cells #[.int .i64 v3.W, .int .i64 v3.H, .slice A4 v3.At.length c5] 34 (0, 0))] :: s297 :: H) ∧ Own (tInt .i64) 3 f291 A7 c8 s297 data296 ∧ data296.length = vt125.length ∧ slices_stableCmpFunc_int__level_known_1.l1 k n13 v3 n_ data296 blockSize300 = some o287 ∧ a_ = ⟨#[.slice A7 data296.length c8, iV n13, .func (.func 99) #[] #[.pointer (some ⟨b1, 0, none⟩)], uV, uV, uV, iV blockSize300, (j295 0), (j295 1), (j295 2), iV 20, (j112 1), (j112 2), (j112 3), (j112 4), (j112 5), (j112 6), (j112 7), (j112 8), (j112 9), (j112 10), (j112 11), (j112 12), .slice A7 vt125.length c8, iV a117, iV n13, .func (.func 99) #[] #[.pointer (some ⟨b1, 0, none⟩)], .tuple #[], (j295 3), (j295 4), (j295 5), (j295 6), (j295 7), (j295 8), (j295 9), (j295 10), (j295 11), (j295 12), (j295 13), (j295 14), (j295 15), (j295 16), (j295 17), (j295 18), (j295 19), (j295 20), (j295 21), (j295 22), (j295 23), (j295 24), (j295 25), (j295 26), (j295 27), (j295 28), (j295 29), (j295 30), (j295 31), (j295 32), (j295 33), (j295 34), (j295 35), (j295 36), (j295 37)], []⟩) k ⟨f127, s131, vt125, 20, (fun i_ => [Value.int .i64 a117, (j112 0), undef, undef, undef, undef, undef, undef, undef, undef, undef, undef, undef, undef, undef, undef, undef, undef, undef, undef, undef, undef, undef, undef, undef, undef, undef, undef, undef, undef, undef, undef, undef, undef, undef, undef, undef, undef].getD i_ undef), (FM.le.refl _), HS130, HO132, rfl, h, (by kernel_rfl)⟩ ?_
    clear h
    rintro n290 _ W293 ⟨f291, s297, data296, blockSize300, j295, L292, HS294, HO298, HL299, h, rfl⟩ K288 hK289
    obtain _ | n290 := n290
    · exact nomatch h
    simp only [slices_stableCmpFunc_int__level_known_1.l1] at h
    refine wp_seq_k (fun K301 hK302 => ?_)
    refine wp_seq_k (fun K303 hK304 => ?_)
    refine wp_region_lit ?_
    refine seqS3 (a' := ⟨#[.slice A7 data296.length c8, iV n13, .func (.func 99) #[] #[.pointer (some ⟨b1, 0, none⟩)], uV, uV, uV, iV blockSize300, (j295 0), (j295 1), (j295 2), iV 20, (j112 1), (j112 2), (j112 3), (j112 4), (j112 5), (j112 6), (j112 7), (j112 8), (j112 9), (j112 10), (j112 11), (j112 12), .slice A7 vt125.length c8, iV a117, iV n13, .func (.func 99) #[] #[.pointer (some ⟨b1, 0, none⟩)], .tuple #[], iV blockSize300, iV n13, .bool (decide (blockSize300 < n13)), (j295 6), (j295 7), (j295 8), (j295 9), (j295 10), (j295 11), (j295 12), (j295 13), (j295 14), (j295 15), (j295 16), (j295 17), (j295 18), (j295 19), (j295 20), (j295 21), (j295 22), (j295 23), (j295 24), (j295 25), (j295 26), (j295 27), (j295 28), (j295 29), (j295 30), (j295 31), (j295 32), (j295 33), (j295 34), (j295 35), (j295 36), (j295 37)], []⟩) (by kernel_rfl) ?_
    refine wpList_nil ?_
    refine hK304 _ _ ?_
    have hq_ := ite_some h; clear h; rcases hq_ with ⟨c306, h⟩ | ⟨c306, h⟩
    · have c306 : blockSize300 < n13 := c306
      refine wpRwI 30 (x := (decide (blockSize300 < n13))) (v := true) (by kernel_rfl) (decide_eq_true c306) ?_
      refine condT (by kernel_rfl) ?_
      refine wp_skip ?_
      refine hK302 _ _ ?_
      refine blockK (fun B307 hx308 hn309 hr310 ho311 hp312 => ?_)
      refine wp_seq_k (fun K314 hK315 => ?_)
      refine wp_region_lit ?_
      refine seqS4 (a' := ⟨#[.slice A7 data296.length c8, iV n13, .func (.func 99) #[] #[.pointer (some ⟨b1, 0, none⟩)], uV, uV, uV, iV blockSize300, iV 0, iV (w64 (2 * blockSize300)), (j295 2), iV 20, (j112 1), (j112 2), (j112 3), (j112 4), (j112 5), (j112 6), (j112 7), (j112 8), (j112 9), (j112 10), (j112 11), (j112 12), .slice A7 vt125.length c8, iV a117, iV n13, .func (.func 99) #[] #[.pointer (some ⟨b1, 0, none⟩)], .tuple #[], iV blockSize300, iV n13, .bool true, iV blockSize300, iV (w64 (2 * blockSize300)), (j295 8), (j295 9), (j295 10), (j295 11), (j295 12), (j295 13), (j295 14), (j295 15), (j295 16), (j295 17), (j295 18), (j295 19), (j295 20), (j295 21), (j295 22), (j295 23), (j295 24), (j295 25), (j295 26), (j295 27), (j295 28), (j295 29), (j295 30), (j295 31), (j295 32), (j295 33), (j295 34), (j295 35), (j295 36), (j295 37)], []⟩) (by kernel_rfl) ?_
      refine wpList_nil ?_
      refine hK315 _ _ ?_
      refine wp_seq_k (fun K316 hK317 => ?_)
      refine blockK (fun B318 hx319 hn320 hr321 ho322 hp323 => ?_)
      have hq_ := bind_some h; clear h; obtain ⟨o363, hv416, h⟩ := hq_
      have J417 : ∀ (f406 : FM) (s412 : Seg) (data411 : List Int) (a415 : Int) (j410 : Nat → Value) (W408 : World) (a_ : Act), FM.le f291 f406 → some ((data411, a415)) = some o363 → St t W408 f406 ([(b1, .cells #[.int .i64 v3.W, .int .i64 v3.H, .slice A4 v3.At.length c5] 34 (0, 0))] :: s412 :: H) → Own (tInt .i64) 3 f406 A7 c8 s412 data411 → data411.length = data296.length → a_ = ⟨#[.slice A7 data411.length c8, iV n13, .func (.func 99) #[] #[.pointer (some ⟨b1, 0, none⟩)], uV, uV, uV, iV blockSize300, iV a415, (j410 0), (j295 2), iV 20, (j112 1), (j112 2), (j112 3), (j112 4), (j112 5), (j112 6), (j112 7), (j112 8), (j112 9), (j112 10), (j112 11), (j112 12), .slice A7 vt125.length c8, iV a117, iV n13, .func (.func 99) #[] #[.pointer (some ⟨b1, 0, none⟩)], .tuple #[], iV blockSize300, iV n13, .bool true, iV blockSize300, iV (w64 (2 * blockSize300)), (j410 1), (j410 2), (j410 3), (j410 4), (j410 5), (j410 6), (j410 7), (j410 8), (j410 9), (j410 10), (j410 11), (j410 12), (j410 13), (j410 14), (j410 15), (j410 16), (j295 24), (j295 25), (j295 26), (j295 27), (j295 28), (j295 29), (j295 30), (j295 31), (j295 32), (j295 33), (j295 34), (j295 35), (j295 36), (j295 37)], []⟩ → K316 a_ W408 := by
        intro f406 s412 data411 a415 j410 W408 a_ L407 hj418 HS409 HO413 HL414 hfr_; subst hfr_
        injection hj418 with hj418; subst hj418; try dsimp only at h
        refine hK317 _ _ ?_
        refine wp_seq_k (fun K419 hK420 => ?_)
        refine wp_seq_k (fun K421 hK422 => ?_)
        refine wp_region_lit ?_
        refine seqS4 (a' := ⟨#[.slice A7 data411.length c8, iV n13, .func (.func 99) #[] #[.pointer (some ⟨b1, 0, none⟩)], uV, uV, uV, iV blockSize300, iV a415, (j410 0), iV (w64 (a415 + blockSize300)), iV 20, (j112 1), (j112 2), (j112 3), (j112 4), (j112 5), (j112 6), (j112 7), (j112 8), (j112 9), (j112 10), (j112 11), (j112 12), .slice A7 vt125.length c8, iV a117, iV n13, .func (.func 99) #[] #[.pointer (some ⟨b1, 0, none⟩)], .tuple #[], iV blockSize300, iV n13, .bool true, iV blockSize300, iV (w64 (2 * blockSize300)), (j410 1), (j410 2), (j410 3), (j410 4), (j410 5), (j410 6), (j410 7), (j410 8), (j410 9), (j410 10), (j410 11), (j410 12), (j410 13), (j410 14), (j410 15), (j410 16), iV a415, iV blockSize300, iV (w64 (a415 + blockSize300)), (j295 27), (j295 28), (j295 29), (j295 30), (j295 31), (j295 32), (j295 33), (j295 34), (j295 35), (j295 36), (j295 37)], []⟩) (by kernel_rfl) ?_
        refine wpList_nil ?_
        refine hK422 _ _ ?_
        refine wp_seq_k (fun K423 hK424 => ?_)
        refine wp_region_lit ?_
        refine seqS3 (a' := ⟨#[.slice A7 data411.length c8, iV n13, .func (.func 99) #[] #[.pointer (some ⟨b1, 0, none⟩)], uV, uV, uV, iV blockSize300, iV a415, (j410 0), iV (w64 (a415 + blockSize300)), iV 20, (j112 1), (j112 2), (j112 3), (j112 4), (j112 5), (j112 6), (j112 7), (j112 8), (j112 9), (j112 10), (j112 11), (j112 12), .slice A7 vt125.length c8, iV a117, iV n13, .func (.func 99) #[] #[.pointer (some ⟨b1, 0, none⟩)], .tuple #[], iV blockSize300, iV n13, .bool true, iV blockSize300, iV (w64 (2 * blockSize300)), (j410 1), (j410 2), (j410 3), (j410 4), (j410 5), (j410 6), (j410 7), (j410 8), (j410 9), (j410 10), (j410 11), (j410 12), (j410 13), (j410 14), (j410 15), (j410 16), iV a415, iV blockSize300, iV (w64 (a415 + blockSize300)), iV (w64 (a415 + blockSize300)), iV n13, .bool (decide ((w64 (a415 + blockSize300)) < n13)), (j295 30), (j295 31), (j295 32), (j295 33), (j295 34), (j295 35), (j295 36), (j295 37)], []⟩) (by kernel_rfl) ?_
        refine wpList_nil ?_
        refine hK424 _ _ ?_
        have hq_ := ite_some h; clear h; rcases hq_ with ⟨c426, h⟩ | ⟨c426, h⟩
        · have c426 : (w64 (a415 + blockSize300)) < n13 := c426
          refine wpRwI 54 (x := (decide ((w64 (a415 + blockSize300)) < n13))) (v := true) (by kernel_rfl) (decide_eq_true c426) ?_
          refine condT (by kernel_rfl) ?_
          refine wp_region_lit ?_
          have HS427 := HS409.u1
          have HS428 := HS427.u1
          have hq_ := bind_some h; clear h; obtain ⟨vt429, hc430, h⟩ := hq_
          refine seqL5 (by kernel_rfl) ?_
          refine seqK rfl (does_call (f := 137) (args := #[.slice A7 data411.length c8, .int .i64 a415, .int .i64 (w64 (a415 + blockSize300)), .int .i64 n13, .func (.func 99) #[] #[.pointer (some ⟨b1, 0, none⟩)]]) (by kernel_rfl) (slices_symMergeCmpFunc_int__level_known_1.calls k b1 A4 c5 A7 c8 s412 v3 data411 a415 (w64 (a415 + blockSize300)) n13 HS428 (HR6.mono (L109.trans (L128.trans (L292.trans L407)))) HO413 vt429 hc430) ?_)
          rintro _ W433 ⟨f431, s435, rfl, L432, HS434, HO436, HL437⟩
          refine ⟨_, rfl, ?_⟩
          refine seqRwS 0 (A := A7) (m := data411.length) (n := vt429.length) (c := c8) (by kernel_rfl) (HL437).symm ?_
          refine seqRwS 55 (A := A7) (m := data411.length) (n := vt429.length) (c := c8) (by kernel_rfl) (HL437).symm ?_
          refine wpList_nil ?_
          refine hK420 _ _ ?_
          refine wp_region_lit ?_
          refine seqS3 (a' := ⟨#[.slice A7 vt429.length c8, iV n13, .func (.func 99) #[] #[.pointer (some ⟨b1, 0, none⟩)], uV, uV, uV, iV (w64 (blockSize300 * 2)), iV a415, (j410 0), iV (w64 (a415 + blockSize300)), iV 20, (j112 1), (j112 2), (j112 3), (j112 4), (j112 5), (j112 6), (j112 7), (j112 8), (j112 9), (j112 10), (j112 11), (j112 12), .slice A7 vt125.length c8, iV a117, iV n13, .func (.func 99) #[] #[.pointer (some ⟨b1, 0, none⟩)], .tuple #[], iV blockSize300, iV n13, .bool true, iV blockSize300, iV (w64 (2 * blockSize300)), (j410 1), (j410 2), (j410 3), (j410 4), (j410 5), (j410 6), (j410 7), (j410 8), (j410 9), (j410 10), (j410 11), (j410 12), (j410 13), (j410 14), (j410 15), (j410 16), iV a415, iV blockSize300, iV (w64 (a415 + blockSize300)), iV (w64 (a415 + blockSize300)), iV n13, .bool true, .slice A7 vt429.length c8, iV a415, iV (w64 (a415 + blockSize300)), iV n13, .func (.func 99) #[] #[.pointer (some ⟨b1, 0, none⟩)], .tuple #[], iV blockSize300, iV (w64 (blockSize300 * 2))], []⟩) (by kernel_rfl) ?_
          refine wpList_nil ?_
          refine hn309 _ _ ?_
          refine hK289 n290 _ _ (Nat.lt_succ_self _) ?_
          exact ⟨f431, s435, vt429, (w64 (blockSize300 * 2)), (fun i_ => [Value.int .i64 a415, (j410 0), Value.int .i64 (w64 (a415 + blockSize300)), Value.int .i64 blockSize300, Value.int .i64 n13, Value.bool true, Value.int .i64 blockSize300, Value.int .i64 (w64 (2 * blockSize300)), (j410 1), (j410 2), (j410 3), (j410 4), (j410 5), (j410 6), (j410 7), (j410 8), (j410 9), (j410 10), (j410 11), (j410 12), (j410 13), (j410 14), (j410 15), (j410 16), Value.int .i64 a415, Value.int .i64 blockSize300, Value.int .i64 (w64 (a415 + blockSize300)), Value.int .i64 (w64 (a415 + blockSize300)), Value.int .i64 n13, Value.bool true, Value.slice A7 vt429.length c8, Value.int .i64 a415, Value.int .i64 (w64 (a415 + blockSize300)), Value.int .i64 n13, Value.func (.func 99) #[] #[.pointer (some ⟨b1, 0, none⟩)], Value.tuple #[], Value.int .i64 blockSize300, Value.int .i64 (w64 (blockSize300 * 2))].getD i_ undef), (L292.trans (L407.trans L432)), HS434, HO436, (HL437.trans (HL414.trans HL299)), h, (by kernel_rfl)⟩
        · have c426 : ¬ ((w64 (a415 + blockSize300)) < n13) := c426
          refine wpRwI 54 (x := (decide ((w64 (a415 + blockSize300)) < n13))) (v := false) (by kernel_rfl) (decide_eq_false c426) ?_
          refine condF (by kernel_rfl) ?_
          refine wp_skip ?_
          refine hK420 _ _ ?_
          refine wp_region_lit ?_
          refine seqS3 (a' := ⟨#[.slice A7 data411.length c8, iV n13, .func (.func 99) #[] #[.pointer (some ⟨b1, 0, none⟩)], uV, uV, uV, iV (w64 (blockSize300 * 2)), iV a415, (j410 0), iV (w64 (a415 + blockSize300)), iV 20, (j112 1), (j112 2), (j112 3), (j112 4), (j112 5), (j112 6), (j112 7), (j112 8), (j112 9), (j112 10), (j112 11), (j112 12), .slice A7 vt125.length c8, iV a117, iV n13, .func (.func 99) #[] #[.pointer (some ⟨b1, 0, none⟩)], .tuple #[], iV blockSize300, iV n13, .bool true, iV blockSize300, iV (w64 (2 * blockSize300)), (j410 1), (j410 2), (j410 3), (j410 4), (j410 5), (j410 6), (j410 7), (j410 8), (j410 9), (j410 10), (j410 11), (j410 12), (j410 13), (j410 14), (j410 15), (j410 16), iV a415, iV blockSize300, iV (w64 (a415 + blockSize300)), iV (w64 (a415 + blockSize300)), iV n13, .bool false, (j295 30), (j295 31), (j295 32), (j295 33), (j295 34), (j295 35), iV blockSize300, iV (w64 (blockSize300 * 2))], []⟩) (by kernel_rfl) ?_
          refine wpList_nil ?_
          refine hn309 _ _ ?_
          refine hK289 n290 _ _ (Nat.lt_succ_self _) ?_
          exact ⟨f406, s412, data411, (w64 (blockSize300 * 2)), (fun i_ => [Value.int .i64 a415, (j410 0), Value.int .i64 (w64 (a415 + blockSize300)), Value.int .i64 blockSize300, Value.int .i64 n13, Value.bool true, Value.int .i64 blockSize300, Value.int .i64 (w64 (2 * blockSize300)), (j410 1), (j410 2), (j410 3), (j410 4), (j410 5), (j410 6), (j410 7), (j410 8), (j410 9), (j410 10), (j410 11), (j410 12), (j410 13), (j410 14), (j410 15), (j410 16), Value.int .i64 a415, Value.int .i64 blockSize300, Value.int .i64 (w64 (a415 + blockSize300)), Value.int .i64 (w64 (a415 + blockSize300)), Value.int .i64 n13, Value.bool false, (j295 30), (j295 31), (j295 32), (j295 33), (j295 34), (j295 35), Value.int .i64 blockSize300, Value.int .i64 (w64 (blockSize300 * 2))].getD i_ undef), (L292.trans L407), HS409, HO413, (HL414.trans HL299), h, (by kernel_rfl)⟩
      clear h; have h := hv416; clear hv416
      refine loopK (fun n_ a_ w_ => ∃ (f367 : FM) (s373 : Seg) (data372 : List Int) (a376 : Int) (b377 : Int) (j371 : Nat → Value), FM.le f291 f367 ∧ St t w_ f367 ([(b1, .cells #[.int .i64 v3.W, .int .i64 v3.H, .slice A4 v3.At.length c5] 34 (0, 0))] :: s373 :: H) ∧ Own (tInt .i64) 3 f367 A7 c8 s373 data372 ∧ data372.length = data296.length ∧ slices_stableCmpFunc_int__level_known_1.l2 k n13 v3 blockSize300 n_ data372 a376 b377 = some o363 ∧ a_ = ⟨#[.slice A7 data372.length c8, iV n13, .func (.func 99) #[] #[.pointer (some ⟨b1, 0, none⟩)], uV, uV, uV, iV blockSize300, iV a376, iV b377, (j295 2), iV 20, (j112 1), (j112 2), (j112 3), (j112 4), (j112 5), (j112 6), (j112 7), (j112 8), (j112 9), (j112 10), (j112 11), (j112 12), .slice A7 vt125.length c8, iV a117, iV n13, .func (.func 99) #[] #[.pointer (some ⟨b1, 0, none⟩)], .tuple #[], iV blockSize300, iV n13, .bool true, iV blockSize300, iV (w64 (2 * blockSize300)), (j371 0), (j371 1), (j371 2), (j371 3), (j371 4), (j371 5), (j371 6), (j371 7), (j371 8), (j371 9), (j371 10), (j371 11), (j371 12), (j371 13), (j371 14), (j371 15), (j295 24), (j295 25), (j295 26), (j295 27), (j295 28), (j295 29), (j295 30), (j295 31), (j295 32), (j295 33), (j295 34), (j295 35), (j295 36), (j295 37)], []⟩) k ⟨f291, s297, data296, 0, (w64 (2 * blockSize300)), (fun i_ => [(j295 8), (j295 9), (j295 10), (j295 11), (j295 12), (j295 13), (j295 14), (j295 15), (j295 16), (j295 17), (j295 18), (j295 19), (j295 20), (j295 21), (j295 22), (j295 23)].getD i_ undef), (FM.le.refl _), HS294, HO298, rfl, h, (by kernel_rfl)⟩ ?_
      clear h
      rintro n366 _ W369 ⟨f367, s373, data372, a376, b377, j371, L368, HS370, HO374, HL375, h, rfl⟩ K364 hK365
      obtain _ | n366 := n366
      · exact nomatch h
      simp only [slices_stableCmpFunc_int__level_known_1.l2] at h
      refine wp_seq_k (fun K378 hK379 => ?_)
      refine wp_seq_k (fun K380 hK381 => ?_)
      refine wp_region_lit ?_
      refine seqS3 (a' := ⟨#[.slice A7 data372.length c8, iV n13, .func (.func 99) #[] #[.pointer (some ⟨b1, 0, none⟩)], uV, uV, uV, iV blockSize300, iV a376, iV b377, (j295 2), iV 20, (j112 1), (j112 2), (j112 3), (j112 4), (j112 5), (j112 6), (j112 7), (j112 8), (j112 9), (j112 10), (j112 11), (j112 12), .slice A7 vt125.length c8, iV a117, iV n13, .func (.func 99) #[] #[.pointer (some ⟨b1, 0, none⟩)], .tuple #[], iV blockSize300, iV n13, .bool true, iV blockSize300, iV (w64 (2 * blockSize300)), iV b377, iV n13, .bool (decide (b377 ≤ n13)), (j371 3), (j371 4), (j371 5), (j371 6), (j371 7), (j371 8), (j371 9), (j371 10), (j371 11), (j371 12), (j371 13), (j371 14), (j371 15), (j295 24), (j295 25), (j295 26), (j295 27), (j295 28), (j295 29), (j295 30), (j295 31), (j295 32), (j295 33), (j295 34), (j295 35), (j295 36), (j295 37)], []⟩) (by kernel_rfl) ?_
      refine wpList_nil ?_
      refine hK381 _ _ ?_
      have hq_ := ite_some h; clear h; rcases hq_ with ⟨c383, h⟩ | ⟨c383, h⟩
      · have c383 : b377 ≤ n13 := c383
        refine wpRwI 35 (x := (decide (b377 ≤ n13))) (v := true) (by kernel_rfl) (decide_eq_true c383) ?_
        refine condT (by kernel_rfl) ?_
        refine wp_skip ?_
        refine hK379 _ _ ?_
        refine blockK (fun B384 hx385 hn386 hr387 ho388 hp389 => ?_)
        refine wp_seq_k (fun K391 hK392 => ?_)
        refine wp_region_lit ?_
        have HS393 := HS370.u1
        have HS394 := HS393.u1
        have hq_ := bind_some h; clear h; obtain ⟨vt395, hc396, h⟩ := hq_
        refine seqL7 (by kernel_rfl) ?_
        refine seqK rfl (does_call (f := 137) (args := #[.slice A7 data372.length c8, .int .i64 a376, .int .i64 (w64 (a376 + blockSize300)), .int .i64 b377, .func (.func 99) #[] #[.pointer (some ⟨b1, 0, none⟩)]]) (by kernel_rfl) (slices_symMergeCmpFunc_int__level_known_1.calls k b1 A4 c5 A7 c8 s373 v3 data372 a376 (w64 (a376 + blockSize300)) b377 HS394 (HR6.mono (L109.trans (L128.trans (L292.trans L368)))) HO374 vt395 hc396) ?_)
        rintro _ W399 ⟨f397, s401, rfl, L398, HS400, HO402, HL403⟩
        refine ⟨_, rfl, ?_⟩
        refine seqRwS 0 (A := A7) (m := data372.length) (n := vt395.length) (c := c8) (by kernel_rfl) (HL403).symm ?_
        refine seqRwS 36 (A := A7) (m := data372.length) (n := vt395.length) (c := c8) (by kernel_rfl) (HL403).symm ?_
        refine wpList_nil ?_
        refine hK392 _ _ ?_
        refine wp_seq_k (fun K404 hK405 => ?_)
        refine wp_region_lit ?_
        refine seqS2 (a' := ⟨#[.slice A7 vt395.length c8, iV n13, .func (.func 99) #[] #[.pointer (some ⟨b1, 0, none⟩)], uV, uV, uV, iV blockSize300, iV b377, iV b377, (j295 2), iV 20, (j112 1), (j112 2), (j112 3), (j112 4), (j112 5), (j112 6), (j112 7), (j112 8), (j112 9), (j112 10), (j112 11), (j112 12), .slice A7 vt125.length c8, iV a117, iV n13, .func (.func 99) #[] #[.pointer (some ⟨b1, 0, none⟩)], .tuple #[], iV blockSize300, iV n13, .bool true, iV blockSize300, iV (w64 (2 * blockSize300)), iV b377, iV n13, .bool true, .slice A7 vt395.length c8, iV a376, iV a376, iV blockSize300, iV (w64 (a376 + blockSize300)), iV b377, .func (.func 99) #[] #[.pointer (some ⟨b1, 0, none⟩)], .tuple #[], iV b377, (j371 12), (j371 13), (j371 14), (j371 15), (j295 24), (j295 25), (j295 26), (j295 27), (j295 28), (j295 29), (j295 30), (j295 31), (j295 32), (j295 33), (j295 34), (j295 35), (j295 36), (j295 37)], []⟩) (by kernel_rfl) ?_
        refine wpList_nil ?_
        refine hK405 _ _ ?_
        refine wp_region_lit ?_
        refine seqS5 (a' := ⟨#[.slice A7 vt395.length c8, iV n13, .func (.func 99) #[] #[.pointer (some ⟨b1, 0, none⟩)], uV, uV, uV, iV blockSize300, iV b377, iV (w64 (b377 + (w64 (2 * blockSize300)))), (j295 2), iV 20, (j112 1), (j112 2), (j112 3), (j112 4), (j112 5), (j112 6), (j112 7), (j112 8), (j112 9), (j112 10), (j112 11), (j112 12), .slice A7 vt125.length c8, iV a117, iV n13, .func (.func 99) #[] #[.pointer (some ⟨b1, 0, none⟩)], .tuple #[], iV blockSize300, iV n13, .bool true, iV blockSize300, iV (w64 (2 * blockSize300)), iV b377, iV n13, .bool true, .slice A7 vt395.length c8, iV a376, iV a376, iV blockSize300, iV (w64 (a376 + blockSize300)), iV b377, .func (.func 99) #[] #[.pointer (some ⟨b1, 0, none⟩)], .tuple #[], iV b377, iV b377, iV blockSize300, iV (w64 (2 * blockSize300)), iV (w64 (b377 + (w64 (2 * blockSize300)))), (j295 24), (j295 25), (j295 26), (j295 27), (j295 28), (j295 29), (j295 30), (j295 31), (j295 32), (j295 33), (j295 34), (j295 35), (j295 36), (j295 37)], []⟩) (by kernel_rfl) ?_
        refine wpList_nil ?_
        refine hn386 _ _ ?_
        refine hK365 n366 _ _ (Nat.lt_succ_self _) ?_
        exact ⟨f397, s401, vt395, b377, (w64 (b377 + (w64 (2 * blockSize300)))), (fun i_ => [Value.int .i64 b377, Value.int .i64 n13, Value.bool true, Value.slice A7 vt395.length c8, Value.int .i64 a376, Value.int .i64 a376, Value.int .i64 blockSize300, Value.int .i64 (w64 (a376 + blockSize300)), Value.int .i64 b377, Value.func (.func 99) #[] #[.pointer (some ⟨b1, 0, none⟩)], Value.tuple #[], Value.int .i64 b377, Value.int .i64 b377, Value.int .i64 blockSize300, Value.int .i64 (w64 (2 * blockSize300)), Value.int .i64 (w64 (b377 + (w64 (2 * blockSize300))))].getD i_ undef), (L368.trans L398), HS400, HO402, (HL403.trans HL375), h, (by kernel_rfl)⟩
      · have c383 : ¬ (b377 ≤ n13) := c383
        refine wpRwI 35 (x := (decide (b377 ≤ n13))) (v := false) (by kernel_rfl) (decide_eq_false c383) ?_
        refine condF (by kernel_rfl) ?_
        refine wp_exit ?_
        refine hx319 _ _ ?_
        exact J417 f367 s373 data372 a376 (fun i_ => [Value.int .i64 b377, Value.int .i64 b377, Value.int .i64 n13, Value.bool false, (j371 3), (j371 4), (j371 5), (j371 6), (j371 7), (j371 8), (j371 9), (j371 10), (j371 11), (j371 12), (j371 13), (j371 14), (j371 15)].getD i_ undef) W369 _ L368 h HS370 HO374 HL375 (by kernel_rfl)
    · have c306 : ¬ (blockSize300 < n13) := c306
      refine wpRwI 30 (x := (decide (blockSize300 < n13))) (v := false) (by kernel_rfl) (decide_eq_false c306) ?_
      refine condF (by kernel_rfl) ?_
      refine wp_exit ?_
      refine hx135 _ _ ?_
      exact J448 f291 s297 data296 (fun i_ => [Value.int .i64 blockSize300, (j295 0), (j295 1), (j295 2), Value.slice A7 vt125.length c8, Value.int .i64 blockSize300, Value.int .i64 n13, Value.bool false, (j295 6), (j295 7), (j295 8), (j295 9), (j295 10), (j295 11), (j295 12), (j295 13), (j295 14), (j295 15), (j295 16), (j295 17), (j295 18), (j295 19), (j295 20), (j295 21), (j295 22), (j295 23), (j295 24), (j295 25), (j295 26), (j295 27), (j295 28), (j295 29), (j295 30), (j295 31), (j295 32), (j295 33), (j295 34), (j295 35), (j295 36), (j295 37)].getD i_ undef) W293 _ L292 h HS294 HO298 HL299 (by kernel_rfl)
  clear h; have h := hv118; clear hv118
  refine loopK (fun n_ a_ w_ => ∃ (f69 : FM) (s75 : Seg) (data74 : List Int) (a78 : Int) (b79 : Int) (j73 : Nat → Value), FM.le f f69 ∧ St t w_ f69 ([(b1, .cells #[.int .i64 v3.W, .int .i64 v3.H, .slice A4 v3.At.length c5] 34 (0, 0))] :: s75 :: H) ∧ Own (tInt .i64) 3 f69 A7 c8 s75 data74 ∧ data74.length = data11.length ∧ slices_stableCmpFunc_int__level_known_1.l0 k n13 v3 n_ data74 a78 b79 = some o65 ∧ a_ = ⟨#[.slice A7 data74.length c8, iV n13, .func (.func 99) #[] #[.pointer (some ⟨b1, 0, none⟩)], uV, uV, uV, iV 20, iV a78, iV b79, uV, iV 20, (j73 0), (j73 1), (j73 2), (j73 3), (j73 4), (j73 5), (j73 6), (j73 7), (j73 8), (j73 9), (j73 10), (j73 11), uV, uV, uV, uV, uV, uV, uV, uV, uV, uV, uV, uV, uV, uV, uV, uV, uV, uV, uV, uV, uV, uV, uV, uV, uV, uV, uV, uV, uV, uV, uV, uV, uV, uV, uV, uV, uV, uV, uV, uV], []⟩) k ⟨f, s9, data11, 0, 20, (fun i_ => [undef, undef, undef, undef, undef, undef, undef, undef, undef, undef, undef, undef].getD i_ undef), (FM.le.refl _), HS, HO10, rfl, h, (by kernel_rfl)⟩ ?_
  clear h
  rintro n68 _ W71 ⟨f69, s75, data74, a78, b79, j73, L70, HS72, HO76, HL77, h, rfl⟩ K66 hK67
  obtain _ | n68 := n68
  · exact nomatch h
  simp only [slices_stableCmpFunc_int__level_known_1.l0] at h
  refine wp_seq_k (fun K80 hK81 => ?_)
  refine wp_seq_k (fun K82 hK83 => ?_)
  refine wp_region_lit ?_
  refine seqS3 (a' := ⟨#[.slice A7 data74.length c8, iV n13, .func (.func 99) #[] #[.pointer (some ⟨b1, 0, none⟩)], uV, uV, uV, iV 20, iV a78, iV b79, uV, iV 20, iV b79, iV n13, .bool (decide (b79 ≤ n13)), (j73 3), (j73 4), (j73 5), (j73 6), (j73 7), (j73 8), (j73 9), (j73 10), (j73 11), uV, uV, uV, uV, uV, uV, uV, uV, uV, uV, uV, uV, uV, uV, uV, uV, uV, uV, uV, uV, uV, uV, uV, uV, uV, uV, uV, uV, uV, uV, uV, uV, uV, uV, uV, uV, uV, uV, uV, uV], []⟩) (by kernel_rfl) ?_
  refine wpList_nil ?_
  refine hK83 _ _ ?_
  have hq_ := ite_some h; clear h; rcases hq_ with ⟨c85, h⟩ | ⟨c85, h⟩
  · have c85 : b79 ≤ n13 := c85
    refine wpRwI 13 (x := (decide (b79 ≤ n13))) (v := true) (by kernel_rfl) (decide_eq_true c85) ?_
    refine condT (by kernel_rfl) ?_
    refine wp_skip ?_
    refine hK81 _ _ ?_
    refine blockK (fun B86 hx87 hn88 hr89 ho90 hp91 => ?_)
    refine wp_seq_k (fun K93 hK94 => ?_)
    refine wp_region_lit ?_
    have HS95 := HS72.u1
    have HS96 := HS95.u1
    have hq_ := bind_some h; clear h; obtain ⟨vt97, hc98, h⟩ := hq_
    refine seqL4 (by kernel_rfl) ?_
    refine seqK rfl (does_call (f := 136) (args := #[.slice A7 data74.length c8, .int .i64 a78, .int .i64 b79, .func (.func 99) #[] #[.pointer (some ⟨b1, 0, none⟩)]]) (by kernel_rfl) (slices_insertionSortCmpFunc_int__level_known_1.calls k b1 A4 c5 A7 c8 s75 v3 data74 a78 b79 HS96 (HR6.mono L70) HO76 vt97 hc98) ?_)
    rintro _ W101 ⟨f99, s103, rfl, L100, HS102, HO104, HL105⟩
    refine ⟨_, rfl, ?_⟩
    refine seqRwS 0 (A := A7) (m := data74.length) (n := vt97.length) (c := c8) (by kernel_rfl) (HL105).symm ?_
    refine seqRwS 14 (A := A7) (m := data74.length) (n := vt97.length) (c := c8) (by kernel_rfl) (HL105).symm ?_
    refine wpList_nil ?_
    refine hK94 _ _ ?_
    refine wp_seq_k (fun K106 hK107 => ?_)
    refine wp_region_lit ?_
    refine seqS2 (a' := ⟨#[.slice A7 vt97.length c8, iV n13, .func (.func 99) #[] #[.pointer (some ⟨b1, 0, none⟩)], uV, uV, uV, iV 20, iV b79, iV b79, uV, iV 20, iV b79, iV n13, .bool true, .slice A7 vt97.length c8, iV a78, iV b79, .func (.func 99) #[] #[.pointer (some ⟨b1, 0, none⟩)], .tuple #[], iV b79, (j73 9), (j73 10), (j73 11), uV, uV, uV, uV, uV, uV, uV, uV, uV, uV, uV, uV, uV, uV, uV, uV, uV, uV, uV, uV, uV, uV, uV, uV, uV, uV, uV, uV, uV, uV, uV, uV, uV, uV, uV, uV, uV, uV, uV, uV], []⟩) (by kernel_rfl) ?_
    refine wpList_nil ?_
    refine hK107 _ _ ?_
    refine wp_region_lit ?_
    refine seqS4 (a' := ⟨#[.slice A7 vt97.length c8, iV n13, .func (.func 99) #[] #[.pointer (some ⟨b1, 0, none⟩)], uV, uV, uV, iV 20, iV b79, iV (w64 (b79 + 20)), uV, iV 20, iV b79, iV n13, .bool true, .slice A7 vt97.length c8, iV a78, iV b79, .func (.func 99) #[] #[.pointer (some ⟨b1, 0, none⟩)], .tuple #[], iV b79, iV b79, iV 20, iV (w64 (b79 + 20)), uV, uV, uV, uV, uV, uV, uV, uV, uV, uV, uV, uV, uV, uV, uV, uV, uV, uV, uV, uV, uV, uV, uV, uV, uV, uV, uV, uV, uV, uV, uV, uV, uV, uV, uV, uV, uV, uV, uV, uV], []⟩) (by kernel_rfl) ?_
    refine wpList_nil ?_
    refine hn88 _ _ ?_
    refine hK67 n68 _ _ (Nat.lt_succ_self _) ?_
    exact ⟨f99, s103, vt97, b79, (w64 (b79 + 20)), (fun i_ => [Value.int .i64 b79, Value.int .i64 n13, Value.bool true, Value.slice A7 vt97.length c8, Value.int .i64 a78, Value.int .i64 b79, Value.func (.func 99) #[] #[.pointer (some ⟨b1, 0, none⟩)], Value.tuple #[], Value.int .i64 b79, Value.int .i64 b79, Value.int .i64 20, Value.int .i64 (w64 (b79 + 20))].getD i_ undef), (L70.trans L100), HS102, HO104, (HL105.trans HL77), h, (by kernel_rfl)⟩
  · have c85 : ¬ (b79 ≤ n13) := c85
    refine wpRwI 13 (x := (decide (b79 ≤ n13))) (v := false) (by kernel_rfl) (decide_eq_false c85) ?_
    refine condF (by kernel_rfl) ?_
    refine wp_exit ?_
    refine hx21 _ _ ?_
    exact J119 f69 s75 data74 a78 (fun i_ => [Value.int .i64 b79, Value.int .i64 b79, Value.int .i64 n13, Value.bool false, (j73 3), (j73 4), (j73 5), (j73 6), (j73 7), (j73 8), (j73 9), (j73 10), (j73 11)].getD i_ undef) W71 _ L70 h HS72 HO76 HL77 (by kernel_rfl)

set_option maxRecDepth 100000 in
set_option maxHeartbeats 4000000 in
theorem slices_SortStableFunc_int__level_known_1.calls (k : Nat) (b1 : Nat) (A4 : Option Addr) (c5 : Nat) (A7 : Option Addr) (c8 : Nat) (s9 : Seg) (v3 : S_Cells) (x11 : List Int) {t w : World} {f : FM} {H : List Seg} (HS : St t w f ([(b1, .cells #[.int .i64 v3.W, .int .i64 v3.H, .slice A4 v3.At.length c5] 34 (0, 0))] :: s9 :: H)) (HR6 : SlR ty_Bound f A4 c5 v3.At) (HO10 : Own (tInt .i64) 3 f A7 c8 s9 x11) (r1 : List Int) (h : slices_SortStableFunc_int__level_known_1 k v3 x11 = some r1) :
    Calls Try.prog 98 #[.slice A7 x11.length c8, .func (.func 99) #[] #[.pointer (some ⟨b1, 0, none⟩)]] w (fun e w' => ∃ (g : FM) (s24 : Seg), e = .returned (Value.tuple #[]) ∧ FM.le f g ∧ St t w' g ([(b1, .cells #[.int .i64 v3.W, .int .i64 v3.H, .slice A4 v3.At.length c5] 34 (0, 0))] :: s24 :: H) ∧ Own (tInt .i64) 3 g A7 c8 s24 r1 ∧ r1.length = x11.length) := by
  unfold slices_SortStableFunc_int__level_known_1 at h
  refine enter Try.func98 rfl (tm := #[.slice A7 x11.length c8, .func (.func 99) #[] #[.pointer (some ⟨b1, 0, none⟩)], uV, uV, uV, uV, uV, uV, uV]) (by kernel_rfl) ?_
  intro B hret hnor hnp
  refine wp_region_lit ?_
  have HS13 := HS.u1
  have HS14 := HS13.u1
  have hq_ := bind_some h; clear h; obtain ⟨vt15, hc16, h⟩ := hq_
  refine seqL4 (by kernel_rfl) ?_
  refine seqK rfl (does_call (f := 118) (args := #[.slice A7 x11.length c8, .int .i64 (x11.length : Int), .func (.func 99) #[] #[.pointer (some ⟨b1, 0, none⟩)]]) (by kernel_rfl) (slices_stableCmpFunc_int__level_known_1.calls k b1 A4 c5 A7 c8 s9 v3 x11 (x11.length : Int) HS14 HR6 HO10 vt15 hc16) ?_)
  rintro _ W19 ⟨f17, s21, rfl, L18, HS20, HO22, HL23⟩
  refine ⟨_, rfl, ?_⟩
  refine seqRwS 0 (A := A7) (m := x11.length) (n := vt15.length) (c := c8) (by kernel_rfl) (HL23).symm ?_
  refine seqRwS 4 (A := A7) (m := x11.length) (n := vt15.length) (c := c8) (by kernel_rfl) (HL23).symm ?_
  refine seqRwS 5 (A := A7) (m := x11.length) (n := vt15.length) (c := c8) (by kernel_rfl) (HL23).symm ?_
  refine wpList_nil ?_
  refine hnor _ _ ?_
  refine ends_still (v := Value.tuple #[]) (by kernel_rfl) (by kernel_rfl) ?_
  injection h with h
  subst h
  exact ⟨f17, s21, rfl, L18, HS20, HO22, HL23⟩

set_option maxRecDepth 100000 in
set_option maxHeartbeats 4000000 in
theorem level_known.calls (k : Nat) (A2 : Option Addr) (c3 : Nat) (c1 : S_Cells) {t w : World} {f : FM} {H : List Seg} (HS : St t w f (H)) (HR4 : SlR ty_Bound f A2 c3 c1.At) (r1 : List Int) (h : level_known k c1 = some r1) :
    Calls Try.prog 62 #[.agg #[.int .i64 c1.W, .int .i64 c1.H, .slice A2 c1.At.length c3]] w (fun e w' => ∃ (g : FM) (A127 : Option Addr) (c128 : Nat) (s129 : Seg), e = .returned (Value.slice A127 r1.length c128) ∧ FM.le f g ∧ St t w' g (s129 :: H) ∧ Own (tInt .i64) 3 g A127 c128 s129 r1) := by
  unfold level_known at h
  refine enter Try.func62 rfl (tm := #[.agg #[iV c1.W, iV c1.H, .slice A2 c1.At.length c3], uV, uV, uV, uV, uV, uV, uV, uV, uV, uV, uV, uV, uV, uV, uV, uV, uV, uV, uV, uV, uV, uV, uV, uV, uV]) (by kernel_rfl) ?_
  intro B hret hnor hnp
  refine wp_seq_k (fun K5 hK6 => ?_)
  refine wp_region_lit ?_
  refine seqK rfl (does_box (cs := #[.int .i64 c1.W, .int .i64 c1.H, .slice A2 c1.At.length c3]) rfl (by kernel_rfl : _ = Value.agg #[.int .i64 c1.W, .int .i64 c1.H, .slice A2 c1.At.length c3]) rfl HS ?_)
  intro b7 W8 HS9
  refine seqS1 (a' := ⟨#[.agg #[iV c1.W, iV c1.H, .slice A2 c1.At.length c3], .pointer (some ⟨b7, 0, none⟩), .slice none 0 0, uV, uV, uV, uV, uV, uV, uV, uV, uV, uV, uV, uV, uV, uV, uV, uV, uV, uV, uV, uV, uV, uV, uV], []⟩) (by kernel_rfl) ?_
  refine wpList_nil ?_
  refine hK6 _ _ ?_
  refine wp_seq_k (fun K11 hK12 => ?_)
  refine wp_region_lit ?_
  refine seqS1 (a' := ⟨#[.agg #[iV c1.W, iV c1.H, .slice A2 c1.At.length c3], .pointer (some ⟨b7, 0, none⟩), .slice none 0 0, .slice none 0 0, uV, uV, uV, uV, uV, uV, uV, uV, uV, uV, uV, uV, uV, uV, uV, uV, uV, uV, uV, uV, uV, uV], []⟩) (by kernel_rfl) ?_
  refine wpList_nil ?_
  refine hK12 _ _ ?_
  refine wp_seq_k (fun K13 hK14 => ?_)
  refine wp_seq_k (fun K15 hK16 => ?_)
  refine wp_region_lit ?_
  refine seqL1 (by kernel_rfl) ?_
  refine seqK rfl (does_run (run_load rfl Try.underlying32 rfl (by kernel_rfl : _ = Value.pointer (some ⟨b7, 2, none⟩)) (HS9.cell 2)) ?_)
  refine seqS2 (a' := ⟨#[.agg #[iV c1.W, iV c1.H, .slice A2 c1.At.length c3], .pointer (some ⟨b7, 0, none⟩), .slice none 0 0, .slice none 0 0, uV, uV, .pointer (some ⟨b7, 2, none⟩), .slice A2 c1.At.length c3, iV (c1.At.length : Int), iV 0, uV, uV, uV, uV, uV, uV, uV, uV, uV, uV, uV, uV, uV, uV, uV, uV], []⟩) (by kernel_rfl) ?_
  refine wpList_nil ?_
  refine hK16 _ _ ?_
  refine blockK (fun B17 hx18 hn19 hr20 ho21 hp22 => ?_)
  have hq_ := bind_some h; clear h; obtain ⟨o23, hv99, h⟩ := hq_
  have J100 : ∀ (f88 : FM) (A94 : Option Addr) (c95 : Nat) (s96 : Seg) (out93 : List Int) (j92 : Nat → Value) (W90 : World) (a_ : Act), FM.le f f88 → some (out93) = some o23 → St t W90 f88 (s96 :: [(b7, .cells #[.int .i64 c1.W, .int .i64 c1.H, .slice A2 c1.At.length c3] 34 (0, 0))] :: H) → Own (tInt .i64) 3 f88 A94 c95 s96 out93 → a_ = ⟨#[.agg #[iV c1.W, iV c1.H, .slice A2 c1.At.length c3], .pointer (some ⟨b7, 0, none⟩), .slice none 0 0, .slice A94 out93.length c95, (j92 0), (j92 1), .pointer (some ⟨b7, 2, none⟩), .slice A2 c1.At.length c3, iV (c1.At.length : Int), (j92 2), (j92 3), (j92 4), (j92 5), (j92 6), (j92 7), (j92 8), (j92 9), (j92 10), (j92 11), (j92 12), (j92 13), (j92 14), uV, uV, uV, uV], []⟩ → K13 a_ W90 := by
    intro f88 A94 c95 s96 out93 j92 W90 a_ L89 hj101 HS91 HO97 hfr_; subst hfr_
    injection hj101 with hj101; subst hj101; try dsimp only at h
    refine hK14 _ _ ?_
    refine wp_seq_k (fun K112 hK113 => ?_)
    refine wp_region_lit ?_
    have HS114 := HS91.u1
    have hq_ := bind_some h; clear h; obtain ⟨vt115, hc116, h⟩ := hq_
    refine seqL2 (by kernel_rfl) ?_
    refine seqK rfl (does_call (f := 98) (args := #[.slice A94 out93.length c95, .func (.func 99) #[] #[.pointer (some ⟨b7, 0, none⟩)]]) (by kernel_rfl) (slices_SortStableFunc_int__level_known_1.calls k b7 A2 c3 A94 c95 s96 c1 out93 HS114 (HR4.mono L89) HO97 vt115 hc116) ?_)
    rintro _ W119 ⟨f117, s121, rfl, L118, HS120, HO122, HL123⟩
    refine ⟨_, rfl, ?_⟩
    refine seqRwS 3 (A := A94) (m := out93.length) (n := vt115.length) (c := c95) (by kernel_rfl) (HL123).symm ?_
    refine seqRwS 22 (A := A94) (m := out93.length) (n := vt115.length) (c := c95) (by kernel_rfl) (HL123).symm ?_
    refine wpList_nil ?_
    refine hK113 _ _ ?_
    refine wp_seq_k (fun K124 hK125 => ?_)
    refine wp_region_lit ?_
    refine seqS2 (a' := ⟨#[.agg #[iV c1.W, iV c1.H, .slice A2 c1.At.length c3], .pointer (some ⟨b7, 0, none⟩), .slice A94 vt115.length c95, .slice A94 vt115.length c95, (j92 0), (j92 1), .pointer (some ⟨b7, 2, none⟩), .slice A2 c1.At.length c3, iV (c1.At.length : Int), (j92 2), (j92 3), (j92 4), (j92 5), (j92 6), (j92 7), (j92 8), (j92 9), (j92 10), (j92 11), (j92 12), (j92 13), (j92 14), .slice A94 vt115.length c95, .func (.func 99) #[] #[.pointer (some ⟨b7, 0, none⟩)], .tuple #[], .slice A94 vt115.length c95], []⟩) (by kernel_rfl) ?_
    refine wpList_nil ?_
    refine hK125 _ _ ?_
    refine wp_ret ?_
    refine hret _ _ ?_
    refine ends_still (v := Value.slice A94 vt115.length c95) (by kernel_rfl) (by kernel_rfl) ?_
    have HS126 := HS120.drop
    injection h with h
    subst h
    exact ⟨f117, A94, c95, s121, rfl, (L89.trans L118), HS126, HO122⟩
  clear h; have h := hv99; clear hv99
  have HS102 := HS9.cons_nil
  refine loopK (fun n_ a_ w_ => ∃ (f27 : FM) (A33 : Option Addr) (c34 : Nat) (s35 : Seg) (out32 : List Int) (x38 : Int) (j31 : Nat → Value), FM.le f f27 ∧ St t w_ f27 (s35 :: [(b7, .cells #[.int .i64 c1.W, .int .i64 c1.H, .slice A2 c1.At.length c3] 34 (0, 0))] :: H) ∧ Own (tInt .i64) 3 f27 A33 c34 s35 out32 ∧ level_known.l0 k c1 n_ out32 x38 = some o23 ∧ a_ = ⟨#[.agg #[iV c1.W, iV c1.H, .slice A2 c1.At.length c3], .pointer (some ⟨b7, 0, none⟩), .slice none 0 0, .slice A33 out32.length c34, (j31 0), (j31 1), .pointer (some ⟨b7, 2, none⟩), .slice A2 c1.At.length c3, iV (c1.At.length : Int), iV x38, (j31 2), (j31 3), (j31 4), (j31 5), (j31 6), (j31 7), (j31 8), (j31 9), (j31 10), (j31 11), (j31 12), (j31 13), uV, uV, uV, uV], []⟩) k ⟨f, none, 0, [], ([] : List Int), 0, (fun i_ => [undef, undef, undef, undef, undef, undef, undef, undef, undef, undef, undef, undef, undef, undef].getD i_ undef), (FM.le.refl _), HS102, (Own.nil _), h, (by kernel_rfl)⟩ ?_
  clear h
  rintro n26 _ W29 ⟨f27, A33, c34, s35, out32, x38, j31, L28, HS30, HO36, h, rfl⟩ K24 hK25
  obtain _ | n26 := n26
  · exact nomatch h
  simp only [level_known.l0] at h
  refine wp_seq_k (fun K39 hK40 => ?_)
  refine wp_region_lit ?_
  refine seqS1 (a' := ⟨#[.agg #[iV c1.W, iV c1.H, .slice A2 c1.At.length c3], .pointer (some ⟨b7, 0, none⟩), .slice none 0 0, .slice A33 out32.length c34, (j31 0), (j31 1), .pointer (some ⟨b7, 2, none⟩), .slice A2 c1.At.length c3, iV (c1.At.length : Int), iV x38, .bool (decide (x38 < (c1.At.length : Int))), (j31 3), (j31 4), (j31 5), (j31 6), (j31 7), (j31 8), (j31 9), (j31 10), (j31 11), (j31 12), (j31 13), uV, uV, uV, uV], []⟩) (by kernel_rfl) ?_
  refine wpList_nil ?_
  refine hK40 _ _ ?_
  refine wp_seq_k (fun K41 hK42 => ?_)
  have hq_ := ite_some h; clear h; rcases hq_ with ⟨c44, h⟩ | ⟨c44, h⟩
  · have c44 : x38 < (c1.At.length : Int) := c44
    refine wpRwI 10 (x := (decide (x38 < (c1.At.length : Int)))) (v := true) (by kernel_rfl) (decide_eq_true c44) ?_
    refine condT (by kernel_rfl) ?_
    refine wp_skip ?_
    refine hK42 _ _ ?_
    refine wp_seq_k (fun K45 hK46 => ?_)
    refine blockK (fun B47 hx48 hn49 hr50 ho51 hp52 => ?_)
    refine wp_seq_k (fun K54 hK55 => ?_)
    refine wp_region_lit ?_
    have hq_ := guard_some h; clear h; obtain ⟨c56, h⟩ := hq_
    have c56 : 0 ≤ x38 := c56
    obtain ⟨b60, of61, cs57, hA62, hr58, hc59⟩ := (HR4.mono L28).at (i := x38) c56 c44
    obtain rfl := hr58
    refine seqL1 (by kernel_rfl) ?_
    refine seqK rfl (does_run (run_indexE hA62 (sz := 3) rfl Try.underlying32 (by kernel_rfl) (by kernel_rfl : _ = Value.slice A2 c1.At.length c3) (by kernel_rfl : _ = Value.int .i64 x38) c56 c44 W29) ?_)
    refine seqK rfl (does_run (run_loadN (n := 3) rfl Try.underlying44 rfl (by kernel_rfl) (by kernel_rfl : _ = Value.pointer (some ⟨b60, of61 + (x38 : Int).toNat * 3, none⟩)) (cs := [.int .i64 ((rd c1.At x38).Lo), .int .i64 ((rd c1.At x38).Hi), .bool ((rd c1.At x38).Unknown)]) rfl (fun j_ hj_ => ((hc59 (FM.le.refl _) HS30) j_ hj_))) ?_)
    refine seqK rfl (does_alloc (z := Value.agg #[.int .i64 0, .int .i64 0, .bool false]) (cs := #[.int .i64 0, .int .i64 0, .bool false]) rfl (by kernel_rfl) rfl HS30 ?_)
    intro b63 W64 HS65
    refine seqL1 (by kernel_rfl) ?_
    refine seqK rfl (does_store (n := 3) (vs := [.int .i64 ((rd c1.At x38).Lo), .int .i64 ((rd c1.At x38).Hi), .bool ((rd c1.At x38).Unknown)]) (cs' := #[.int .i64 ((rd c1.At x38).Lo), .int .i64 ((rd c1.At x38).Hi), .bool ((rd c1.At x38).Unknown)]) rfl (by kernel_rfl) (by kernel_rfl : _ = Value.pointer (some ⟨b63, 0, none⟩)) (by kernel_rfl : _ = Value.agg #[.int .i64 ((rd c1.At x38).Lo), .int .i64 ((rd c1.At x38).Hi), .bool ((rd c1.At x38).Unknown)]) rfl rfl (by intro u_ hu_; simp only [List.mem_cons, List.not_mem_nil, or_false] at hu_; rcases hu_ with rfl | rfl | rfl <;> rfl) HS65 (Nat.le_of_ble_eq_true rfl) (by kernel_rfl) ?_)
    intro W67 HS68
    refine wpList_nil ?_
    refine hK55 _ _ ?_
    refine wp_seq_k (fun K69 hK70 => ?_)
    refine wp_region_lit ?_
    refine seqL1 (by kernel_rfl) ?_
    refine seqK rfl (does_run (run_load rfl Try.underlying4 rfl (by kernel_rfl : _ = Value.pointer (some ⟨b63, 2, none⟩)) (HS68.cell 2)) ?_)
    refine seqS1 (a' := ⟨#[.agg #[iV c1.W, iV c1.H, .slice A2 c1.At.length c3], .pointer (some ⟨b7, 0, none⟩), .slice none 0 0, .slice A33 out32.length c34, iV x38, .pointer (some ⟨b63, 0, none⟩), .pointer (some ⟨b7, 2, none⟩), .slice A2 c1.At.length c3, iV (c1.At.length : Int), iV x38, .bool true, iV x38, .pointer (some ⟨b60, of61 + (x38 : Int).toNat * 3, none⟩), .agg #[iV ((rd c1.At x38).Lo), iV ((rd c1.At x38).Hi), .bool ((rd c1.At x38).Unknown)], .pointer (some ⟨b63, 2, none⟩), .bool ((rd c1.At x38).Unknown), .bool (!((rd c1.At x38).Unknown)), (j31 9), (j31 10), (j31 11), (j31 12), (j31 13), uV, uV, uV, uV], []⟩) (by kernel_rfl) ?_
    refine wpList_nil ?_
    refine hK70 _ _ ?_
    have hq_ := ite_some h; clear h; rcases hq_ with ⟨c72, h⟩ | ⟨c72, h⟩
    · have c72 : ¬ (((rd c1.At x38).Unknown) = true) := c72
      refine wpRwI 16 (x := (!((rd c1.At x38).Unknown))) (v := true) (by kernel_rfl) (congrArg (fun b_ => !b_) (show (rd c1.At x38).Unknown = false from (Bool.eq_false_iff.mpr c72)) : (!((rd c1.At x38).Unknown)) = true) ?_
      refine condT (by kernel_rfl) ?_
      refine wp_region_lit ?_
      refine seqL2 (by kernel_rfl) ?_
      refine seqK rfl (does_lit (e := (tInt .i64)) (E := 3) (vs := #[(0, Value.int .i64 x38)]) (cs := #[.int .i64 x38]) (xs := ([x38] : List Int)) rfl Try.underlying22 (by kernel_rfl) (by kernel_rfl) ⟨[.int .i64 x38], _, rfl, rfl, rfl⟩ rfl HS68 ?_ (by decide))
      intro b73 W74 s75 HS76 _ HO77
      have hq_ := guard_some h; clear h; obtain ⟨c79, h⟩ := hq_
      have c79 : (out32.length + 1) * 8 ≤ 140737488355328 := c79
      have HS80 := HS76.u2
      have HS81 := HS80.u1
      refine seqK rfl (does_append1 (e := (tInt .i64)) (E := 3) (xs := out32) (ys := ([x38] : List Int)) rfl (by kernel_rfl : _ = Value.slice A33 out32.length c34) (by kernel_rfl : _ = Value.slice (some ⟨b73, 0, none⟩) ([x38] : List Int).length 1) Try.underlying22 inf3 HO36 HO77 HS81 c79 (lim63 c79 (by decide)) ?_)
      intro A82 c83 s84 W85 HS86 HO87
      refine seqS1 (a' := ⟨#[.agg #[iV c1.W, iV c1.H, .slice A2 c1.At.length c3], .pointer (some ⟨b7, 0, none⟩), .slice none 0 0, .slice A82 (out32 ++ ([x38] : List Int)).length c83, iV x38, .pointer (some ⟨b63, 0, none⟩), .pointer (some ⟨b7, 2, none⟩), .slice A2 c1.At.length c3, iV (c1.At.length : Int), iV x38, .bool true, iV x38, .pointer (some ⟨b60, of61 + (x38 : Int).toNat * 3, none⟩), .agg #[iV ((rd c1.At x38).Lo), iV ((rd c1.At x38).Hi), .bool ((rd c1.At x38).Unknown)], .pointer (some ⟨b63, 2, none⟩), .bool ((rd c1.At x38).Unknown), .bool true, .slice A33 out32.length c34, iV x38, .slice (some ⟨b73, 0, none⟩) ([x38] : List Int).length 1, .slice A82 (out32 ++ ([x38] : List Int)).length c83, (j31 13), uV, uV, uV, uV], []⟩) (by kernel_rfl) ?_
      refine wpList_nil ?_
      refine hn49 _ _ ?_
      refine hK46 _ _ ?_
      refine wp_region_lit ?_
      refine seqS2 (a' := ⟨#[.agg #[iV c1.W, iV c1.H, .slice A2 c1.At.length c3], .pointer (some ⟨b7, 0, none⟩), .slice none 0 0, .slice A82 (out32 ++ ([x38] : List Int)).length c83, iV x38, .pointer (some ⟨b63, 0, none⟩), .pointer (some ⟨b7, 2, none⟩), .slice A2 c1.At.length c3, iV (c1.At.length : Int), iV (w64 (x38 + 1)), .bool true, iV x38, .pointer (some ⟨b60, of61 + (x38 : Int).toNat * 3, none⟩), .agg #[iV ((rd c1.At x38).Lo), iV ((rd c1.At x38).Hi), .bool ((rd c1.At x38).Unknown)], .pointer (some ⟨b63, 2, none⟩), .bool ((rd c1.At x38).Unknown), .bool true, .slice A33 out32.length c34, iV x38, .slice (some ⟨b73, 0, none⟩) ([x38] : List Int).length 1, .slice A82 (out32 ++ ([x38] : List Int)).length c83, iV (w64 (x38 + 1)), uV, uV, uV, uV], []⟩) (by kernel_rfl) ?_
      refine wpList_nil ?_
      refine hK25 n26 _ _ (Nat.lt_succ_self _) ?_
      have HS104 := HS86.u2
      have HS105 := HS104.u1
      have HS106 := HS105.u2
      have HS107 := HS106.drop
      exact ⟨f27, A82, c83, s84, (out32 ++ ([x38] : List Int)), (w64 (x38 + 1)), (fun i_ => [Value.int .i64 x38, Value.pointer (some ⟨b63, 0, none⟩), Value.bool true, Value.int .i64 x38, Value.pointer (some ⟨b60, of61 + (x38 : Int).toNat * 3, none⟩), Value.agg #[.int .i64 ((rd c1.At x38).Lo), .int .i64 ((rd c1.At x38).Hi), .bool ((rd c1.At x38).Unknown)], Value.pointer (some ⟨b63, 2, none⟩), Value.bool ((rd c1.At x38).Unknown), Value.bool true, Value.slice A33 out32.length c34, Value.int .i64 x38, Value.slice (some ⟨b73, 0, none⟩) ([x38] : List Int).length 1, Value.slice A82 (out32 ++ ([x38] : List Int)).length c83, Value.int .i64 (w64 (x38 + 1))].getD i_ undef), L28, HS107, HO87, h, (by kernel_rfl)⟩
    · have c72 : ¬ (¬ (((rd c1.At x38).Unknown) = true)) := c72
      refine wpRwI 16 (x := (!((rd c1.At x38).Unknown))) (v := false) (by kernel_rfl) (congrArg (fun b_ => !b_) (show (rd c1.At x38).Unknown = true from (Decidable.of_not_not c72)) : (!((rd c1.At x38).Unknown)) = false) ?_
      refine condF (by kernel_rfl) ?_
      refine wp_skip ?_
      refine hn49 _ _ ?_
      refine hK46 _ _ ?_
      refine wp_region_lit ?_
      refine seqS2 (a' := ⟨#[.agg #[iV c1.W, iV c1.H, .slice A2 c1.At.length c3], .pointer (some ⟨b7, 0, none⟩), .slice none 0 0, .slice A33 out32.length c34, iV x38, .pointer (some ⟨b63, 0, none⟩), .pointer (some ⟨b7, 2, none⟩), .slice A2 c1.At.length c3, iV (c1.At.length : Int), iV (w64 (x38 + 1)), .bool true, iV x38, .pointer (some ⟨b60, of61 + (x38 : Int).toNat * 3, none⟩), .agg #[iV ((rd c1.At x38).Lo), iV ((rd c1.At x38).Hi), .bool ((rd c1.At x38).Unknown)], .pointer (some ⟨b63, 2, none⟩), .bool ((rd c1.At x38).Unknown), .bool false, (j31 9), (j31 10), (j31 11), (j31 12), iV (w64 (x38 + 1)), uV, uV, uV, uV], []⟩) (by kernel_rfl) ?_
      refine wpList_nil ?_
      refine hK25 n26 _ _ (Nat.lt_succ_self _) ?_
      have HS108 := HS68.u2
      have HS109 := HS108.u2
      have HS110 := HS109.u2
      have HS111 := HS110.drop
      exact ⟨f27, A33, c34, s35, out32, (w64 (x38 + 1)), (fun i_ => [Value.int .i64 x38, Value.pointer (some ⟨b63, 0, none⟩), Value.bool true, Value.int .i64 x38, Value.pointer (some ⟨b60, of61 + (x38 : Int).toNat * 3, none⟩), Value.agg #[.int .i64 ((rd c1.At x38).Lo), .int .i64 ((rd c1.At x38).Hi), .bool ((rd c1.At x38).Unknown)], Value.pointer (some ⟨b63, 2, none⟩), Value.bool ((rd c1.At x38).Unknown), Value.bool false, (j31 9), (j31 10), (j31 11), (j31 12), Value.int .i64 (w64 (x38 + 1))].getD i_ undef), L28, HS111, HO36, h, (by kernel_rfl)⟩
  · have c44 : ¬ (x38 < (c1.At.length : Int)) := c44
    refine wpRwI 10 (x := (decide (x38 < (c1.At.length : Int)))) (v := false) (by kernel_rfl) (decide_eq_false c44) ?_
    refine condF (by kernel_rfl) ?_
    refine wp_exit ?_
    refine hx18 _ _ ?_
    exact J100 f27 A33 c34 s35 out32 (fun i_ => [(j31 0), (j31 1), Value.int .i64 x38, Value.bool false, (j31 3), (j31 4), (j31 5), (j31 6), (j31 7), (j31 8), (j31 9), (j31 10), (j31 11), (j31 12), (j31 13)].getD i_ undef) W29 _ L28 h HS30 HO36 (by kernel_rfl)

set_option maxRecDepth 100000 in
set_option maxHeartbeats 4000000 in
theorem cmp_Or_int.calls (k : Nat) (A2 : Option Addr) (c3 : Nat) (vals1 : List Int) {t w : World} {f : FM} {H : List Seg} (HS : St t w f (H)) (HR4 : SlR (tInt .i64) f A2 c3 vals1) (r1 : Int) (h : cmp_Or_int k vals1 = some r1) :
    Calls Try.prog 66 #[.slice A2 vals1.length c3] w (fun e w' => ∃ (g : FM), e = .returned (Value.int .i64 r1) ∧ FM.le f g ∧ St t w' g (H)) := by
  unfold cmp_Or_int at h
  refine enter Try.func66 rfl (tm := #[.slice A2 vals1.length c3, uV, uV, uV, uV, uV, uV, uV, uV, uV, uV, uV, uV, uV, uV, uV, uV, uV]) (by kernel_rfl) ?_
  intro B hret hnor hnp
  refine wp_seq_k (fun K5 hK6 => ?_)
  refine wp_region_lit ?_
  refine seqS1 (a' := ⟨#[.slice A2 vals1.length c3, uV, iV 0, uV, uV, uV, uV, uV, uV, uV, uV, uV, uV, uV, uV, uV, uV, uV], []⟩) (by kernel_rfl) ?_
  refine wpList_nil ?_
  refine hK6 _ _ ?_
  refine wp_seq_k (fun K7 hK8 => ?_)
  refine wp_region_lit ?_
  refine seqS1 (a' := ⟨#[.slice A2 vals1.length c3, uV, iV 0, iV 0, uV, uV, uV, uV, uV, uV, uV, uV, uV, uV, uV, uV, uV, uV], []⟩) (by kernel_rfl) ?_
  refine wpList_nil ?_
  refine hK8 _ _ ?_
  refine wp_seq_k (fun K9 hK10 => ?_)
  refine wp_seq_k (fun K11 hK12 => ?_)
  refine wp_region_lit ?_
  refine seqS3 (a' := ⟨#[.slice A2 vals1.length c3, uV, iV 0, iV 0, uV, uV, .slice A2 vals1.length c3, iV (vals1.length : Int), iV 0, uV, uV, uV, uV, uV, uV, uV, uV, uV], []⟩) (by kernel_rfl) ?_
  refine wpList_nil ?_
  refine hK12 _ _ ?_
  refine blockK (fun B13 hx14 hn15 hr16 ho17 hp18 => ?_)
  have hq_ := bind_some h; clear h; obtain ⟨o19, hv64, h⟩ := hq_
  have JR66 : ∀ z_, some (Sum.inl z_) = some o19 → some z_ = some r1 := by
    intro z_ e_; injection e_ with e_; subst e_; exact h
  have J65 : ∀ (f59 : FM) (j63 : Nat → Value) (W61 : World) (a_ : Act), FM.le f f59 → some (Sum.inr ()) = some o19 → St t W61 f59 (H) → a_ = ⟨#[.slice A2 vals1.length c3, uV, (j63 0), iV 0, uV, (j63 1), .slice A2 vals1.length c3, iV (vals1.length : Int), (j63 2), (j63 3), (j63 4), (j63 5), (j63 6), (j63 7), (j63 8), (j63 9), (j63 10), uV], []⟩ → K9 a_ W61 := by
    intro f59 j63 W61 a_ L60 hj67 HS62  hfr_; subst hfr_
    injection hj67 with hj67; subst hj67; try dsimp only at h
    simp only [Sum.elim_inr] at h
    refine hK10 _ _ ?_
    refine wp_seq_k (fun K68 hK69 => ?_)
    refine wp_region_lit ?_
    refine seqS2 (a' := ⟨#[.slice A2 vals1.length c3, uV, iV 0, iV 0, uV, (j63 1), .slice A2 vals1.length c3, iV (vals1.length : Int), (j63 2), (j63 3), (j63 4), (j63 5), (j63 6), (j63 7), (j63 8), (j63 9), (j63 10), iV 0], []⟩) (by kernel_rfl) ?_
    refine wpList_nil ?_
    refine hK69 _ _ ?_
    refine wp_ret ?_
    refine hret _ _ ?_
    refine ends_still (v := Value.int .i64 0) (by kernel_rfl) (by kernel_rfl) ?_
    injection h with h
    subst h
    exact ⟨f59, rfl, L60, HS62⟩
  clear h; have h := hv64; clear hv64
  refine loopK (fun n_ a_ w_ => ∃ (f23 : FM) (x28 : Int) (j27 : Nat → Value), FM.le f f23 ∧ St t w_ f23 (H) ∧ cmp_Or_int.l0 k vals1 n_ x28 = some o19 ∧ a_ = ⟨#[.slice A2 vals1.length c3, uV, (j27 0), iV 0, uV, (j27 1), .slice A2 vals1.length c3, iV (vals1.length : Int), iV x28, (j27 2), (j27 3), (j27 4), (j27 5), (j27 6), (j27 7), (j27 8), (j27 9), uV], []⟩) k ⟨f, 0, (fun i_ => [Value.int .i64 0, undef, undef, undef, undef, undef, undef, undef, undef, undef].getD i_ undef), (FM.le.refl _), HS, h, (by kernel_rfl)⟩ ?_
  clear h
  rintro n22 _ W25 ⟨f23, x28, j27, L24, HS26, h, rfl⟩ K20 hK21
  obtain _ | n22 := n22
  · exact nomatch h
  simp only [cmp_Or_int.l0] at h
  refine wp_seq_k (fun K29 hK30 => ?_)
  refine wp_region_lit ?_
  refine seqS1 (a' := ⟨#[.slice A2 vals1.length c3, uV, (j27 0), iV 0, uV, (j27 1), .slice A2 vals1.length c3, iV (vals1.length : Int), iV x28, .bool (decide (x28 < (vals1.length : Int))), (j27 3), (j27 4), (j27 5), (j27 6), (j27 7), (j27 8), (j27 9), uV], []⟩) (by kernel_rfl) ?_
  refine wpList_nil ?_
  refine hK30 _ _ ?_
  refine wp_seq_k (fun K31 hK32 => ?_)
  have hq_ := ite_some h; clear h; rcases hq_ with ⟨c34, h⟩ | ⟨c34, h⟩
  · have c34 : x28 < (vals1.length : Int) := c34
    refine wpRwI 9 (x := (decide (x28 < (vals1.length : Int)))) (v := true) (by kernel_rfl) (decide_eq_true c34) ?_
    refine condT (by kernel_rfl) ?_
    refine wp_skip ?_
    refine hK32 _ _ ?_
    refine wp_seq_k (fun K35 hK36 => ?_)
    refine blockK (fun B37 hx38 hn39 hr40 ho41 hp42 => ?_)
    refine wp_seq_k (fun K44 hK45 => ?_)
    refine wp_region_lit ?_
    have hq_ := guard_some h; clear h; obtain ⟨c46, h⟩ := hq_
    have c46 : 0 ≤ x28 := c46
    obtain ⟨b50, of51, cs47, hA52, hr48, hc49⟩ := (HR4.mono L24).at (i := x28) c46 c34
    obtain rfl := hr48
    refine seqK rfl (does_run (run_indexE hA52 (sz := 1) rfl Try.underlying22 (by kernel_rfl) (by kernel_rfl : _ = Value.slice A2 vals1.length c3) (by kernel_rfl : _ = Value.int .i64 x28) c46 c34 W25) ?_)
    refine seqK rfl (does_run (run_load rfl Try.underlying3 rfl (by kernel_rfl : _ = Value.pointer (some ⟨b50, of51 + (x28 : Int).toNat * 1, none⟩)) ((hc49 (FM.le.refl _) HS26) 0 (by decide))) ?_)
    refine seqS1 (a' := ⟨#[.slice A2 vals1.length c3, uV, (j27 0), iV 0, uV, iV (rd vals1 x28), .slice A2 vals1.length c3, iV (vals1.length : Int), iV x28, .bool true, .pointer (some ⟨b50, of51 + (x28 : Int).toNat * 1, none⟩), iV (rd vals1 x28), (j27 5), (j27 6), (j27 7), (j27 8), (j27 9), uV], []⟩) (by kernel_rfl) ?_
    refine wpList_nil ?_
    refine hK45 _ _ ?_
    refine wp_seq_k (fun K53 hK54 => ?_)
    refine wp_region_lit ?_
    refine seqS3 (a' := ⟨#[.slice A2 vals1.length c3, uV, (j27 0), iV 0, uV, iV (rd vals1 x28), .slice A2 vals1.length c3, iV (vals1.length : Int), iV x28, .bool true, .pointer (some ⟨b50, of51 + (x28 : Int).toNat * 1, none⟩), iV (rd vals1 x28), iV (rd vals1 x28), iV 0, .bool ((rd vals1 x28) != 0), (j27 8), (j27 9), uV], []⟩) (by kernel_rfl) ?_
    refine wpList_nil ?_
    refine hK54 _ _ ?_
    have hq_ := ite_some h; clear h; rcases hq_ with ⟨c56, h⟩ | ⟨c56, h⟩
    · have c56 : (rd vals1 x28) ≠ 0 := c56
      refine wpRwI 14 (x := ((rd vals1 x28) != 0)) (v := true) (by kernel_rfl) (bne_iff_ne.mpr c56) ?_
      refine condT (by kernel_rfl) ?_
      refine wp_seq_k (fun K57 hK58 => ?_)
      refine wp_region_lit ?_
      refine seqS2 (a' := ⟨#[.slice A2 vals1.length c3, uV, iV (rd vals1 x28), iV 0, uV, iV (rd vals1 x28), .slice A2 vals1.length c3, iV (vals1.length : Int), iV x28, .bool true, .pointer (some ⟨b50, of51 + (x28 : Int).toNat * 1, none⟩), iV (rd vals1 x28), iV (rd vals1 x28), iV 0, .bool true, iV (rd vals1 x28), (j27 9), uV], []⟩) (by kernel_rfl) ?_
      refine wpList_nil ?_
      refine hK58 _ _ ?_
      refine wp_ret ?_
      refine hr40 _ _ ?_
      refine hr16 _ _ ?_
      refine hret _ _ ?_
      refine ends_still (v := Value.int .i64 (rd vals1 x28)) (by kernel_rfl) (by kernel_rfl) ?_
      replace h := JR66 _ h
      injection h with h
      subst h
      exact ⟨f23, rfl, L24, HS26⟩
    · have c56 : ¬ ((rd vals1 x28) ≠ 0) := c56
      refine wpRwI 14 (x := ((rd vals1 x28) != 0)) (v := false) (by kernel_rfl) (bne_eq_false_iff_eq.mpr (Decidable.of_not_not c56)) ?_
      refine condF (by kernel_rfl) ?_
      refine wp_skip ?_
      refine hn39 _ _ ?_
      refine hK36 _ _ ?_
      refine wp_region_lit ?_
      refine seqS2 (a' := ⟨#[.slice A2 vals1.length c3, uV, (j27 0), iV 0, uV, iV (rd vals1 x28), .slice A2 vals1.length c3, iV (vals1.length : Int), iV (w64 (x28 + 1)), .bool true, .pointer (some ⟨b50, of51 + (x28 : Int).toNat * 1, none⟩), iV (rd vals1 x28), iV (rd vals1 x28), iV 0, .bool false, (j27 8), iV (w64 (x28 + 1)), uV], []⟩) (by kernel_rfl) ?_
      refine wpList_nil ?_
      refine hK21 n22 _ _ (Nat.lt_succ_self _) ?_
      exact ⟨f23, (w64 (x28 + 1)), (fun i_ => [(j27 0), Value.int .i64 (rd vals1 x28), Value.bool true, Value.pointer (some ⟨b50, of51 + (x28 : Int).toNat * 1, none⟩), Value.int .i64 (rd vals1 x28), Value.int .i64 (rd vals1 x28), Value.int .i64 0, Value.bool false, (j27 8), Value.int .i64 (w64 (x28 + 1))].getD i_ undef), L24, HS26, h, (by kernel_rfl)⟩
  · have c34 : ¬ (x28 < (vals1.length : Int)) := c34
    refine wpRwI 9 (x := (decide (x28 < (vals1.length : Int)))) (v := false) (by kernel_rfl) (decide_eq_false c34) ?_
    refine condF (by kernel_rfl) ?_
    refine wp_exit ?_
    refine hx14 _ _ ?_
    exact J65 f23 (fun i_ => [(j27 0), (j27 1), Value.int .i64 x28, Value.bool false, (j27 3), (j27 4), (j27 5), (j27 6), (j27 7), (j27 8), (j27 9)].getD i_ undef) W25 _ L24 h HS26 (by kernel_rfl)

set_option maxRecDepth 100000 in
set_option maxHeartbeats 4000000 in
theorem level_Witness_1.calls (k : Nat) (b1 : Nat) (A4 : Option Addr) (c5 : Nat) (v3 : S_Cells) (i7 : Int) (j8 : Int) {t w : World} {f : FM} {H : List Seg} (HS : St t w f ([(b1, .cells #[.int .i64 v3.W, .int .i64 v3.H, .slice A4 v3.At.length c5] 34 (0, 0))] :: H)) (HR6 : SlR ty_Bound f A4 c5 v3.At) (r1 : Int) (h : level_Witness_1 k v3 i7 j8 = some r1) :
    Calls Try.prog 65 #[.int .i64 i7, .int .i64 j8, .pointer (some ⟨b1, 0, none⟩)] w (fun e w' => ∃ (g : FM), e = .returned (Value.int .i64 r1) ∧ FM.le f g ∧ St t w' g ([(b1, .cells #[.int .i64 v3.W, .int .i64 v3.H, .slice A4 v3.At.length c5] 34 (0, 0))] :: H)) := by
  unfold level_Witness_1 at h
  refine enter Try.func65 rfl (tm := #[iV i7, iV j8, .pointer (some ⟨b1, 0, none⟩), uV, uV, uV, uV, uV, uV, uV, uV, uV, uV, uV, uV, uV, uV, uV, uV, uV, uV, uV, uV, uV]) (by kernel_rfl) ?_
  intro B hret hnor hnp
  refine wp_seq_k (fun K9 hK10 => ?_)
  refine wp_region_lit ?_
  refine seqS1 (a' := ⟨#[iV i7, iV j8, .pointer (some ⟨b1, 0, none⟩), uV, uV, iV 0, uV, uV, uV, uV, uV, uV, uV, uV, uV, uV, uV, uV, uV, uV, uV, uV, uV, uV], []⟩) (by kernel_rfl) ?_
  refine wpList_nil ?_
  refine hK10 _ _ ?_
  refine wp_seq_k (fun K11 hK12 => ?_)
  refine heldG (S := Sg t f ([(b1, .cells #[.int .i64 v3.W, .int .i64 v3.H, .slice A4 v3.At.length c5] 34 (0, 0))] :: H) []) (n := 19) (by kernel_rfl) rfl HS ?_
  intro W13 HS14
  refine takeG [0] (n := 19) (fuel := 18) (l' := #[true, false, false, false, false, false, false, false, false, false, false, false, false, false, false, false, false, false, false]) (a' := ⟨#[iV i7, iV j8, .pointer (some ⟨b1, 0, none⟩), uV, uV, iV 0, .pointer (some ⟨b1, 2, none⟩), uV, uV, uV, uV, uV, uV, uV, uV, uV, uV, uV, uV, uV, uV, uV, uV, uV], []⟩) rfl (by kernel_rfl) (by kernel_rfl) (by kernel_rfl) hnp (Sg.g0 (Sx.of [] (FM.le.refl _) HS14)) ?_
  refine takeGQ 1 [] rfl (by kernel_rfl) (by kernel_rfl) (by kernel_rfl) (by kernel_rfl) (by kernel_rfl) (by kernel_rfl) hnp (Sg.g0 (Sx.of [] (FM.le.refl _) HS14)) (fun w_ hw_ => by obtain ⟨g_, hl_, hS_⟩ := hw_.st; exact run_load rfl Try.underlying32 rfl (by kernel_rfl : _ = Value.pointer (some ⟨b1, 2, none⟩)) (hS_.cell 2)) ?_
  have hq_ := guard_some h; clear h; obtain ⟨c15, h⟩ := hq_
  have c15 : 0 ≤ i7 := c15
  have hq_ := guard_some h; clear h; obtain ⟨c16, h⟩ := hq_
  have c16 : i7 < (v3.At.length : Int) := c16
  obtain ⟨b20, of21, cs17, hA22, hr18, hc19⟩ := HR6.at (i := i7) c15 c16
  obtain rfl := hr18
  refine takeG [2] (n := 17) (fuel := 16) (l' := #[true, true, true, false, false, false, false, false, false, false, false, false, false, false, false, false, false, false, false]) (a' := ⟨#[iV i7, iV j8, .pointer (some ⟨b1, 0, none⟩), uV, uV, iV 0, .pointer (some ⟨b1, 2, none⟩), .slice A4 v3.At.length c5, iV i7, uV, uV, uV, uV, uV, uV, uV, uV, uV, uV, uV, uV, uV, uV, uV], []⟩) rfl (by kernel_rfl) (by kernel_rfl) (by kernel_rfl) hnp (Sg.g0 (Sx.of [] (FM.le.refl _) HS14)) ?_
  refine takeGQ 3 [] rfl (by kernel_rfl) (by kernel_rfl) (by kernel_rfl) (by kernel_rfl) (by kernel_rfl) (by kernel_rfl) hnp (Sg.g0 (Sx.of [] (FM.le.refl _) HS14)) (fun w_ hw_ => by obtain ⟨g_, hl_, hS_⟩ := hw_.st; exact run_indexE hA22 (sz := 3) rfl Try.underlying32 (by kernel_rfl) (by kernel_rfl : _ = Value.slice A4 v3.At.length c5) (by kernel_rfl : _ = Value.int .i64 i7) c15 c16 w_) ?_
  refine takeG [4] (n := 15) (fuel := 14) (l' := #[true, true, true, true, true, false, false, false, false, false, false, false, false, false, false, false, false, false, false]) (a' := ⟨#[iV i7, iV j8, .pointer (some ⟨b1, 0, none⟩), uV, uV, iV 0, .pointer (some ⟨b1, 2, none⟩), .slice A4 v3.At.length c5, iV i7, .pointer (some ⟨b20, of21 + (i7 : Int).toNat * 3, none⟩), .pointer (some ⟨b20, of21 + (i7 : Int).toNat * 3 + 1, none⟩), uV, uV, uV, uV, uV, uV, uV, uV, uV, uV, uV, uV, uV], []⟩) rfl (by kernel_rfl) (by kernel_rfl) (by kernel_rfl) hnp (Sg.g0 (Sx.of [] (FM.le.refl _) HS14)) ?_
  refine takeGQ 5 [] rfl (by kernel_rfl) (by kernel_rfl) (by kernel_rfl) (by kernel_rfl) (by kernel_rfl) (by kernel_rfl) hnp (Sg.g0 (Sx.of [] (FM.le.refl _) HS14)) (fun w_ hw_ => by obtain ⟨g_, hl_, hS_⟩ := hw_.st; exact run_load rfl Try.underlying42 rfl (by kernel_rfl : _ = Value.pointer (some ⟨b20, of21 + (i7 : Int).toNat * 3 + 1, none⟩)) ((hc19 hl_ hS_) 1 (by decide))) ?_
  refine takeG [6] (n := 13) (fuel := 12) (l' := #[true, true, true, true, true, true, true, false, false, false, false, false, false, false, false, false, false, false, false]) (a' := ⟨#[iV i7, iV j8, .pointer (some ⟨b1, 0, none⟩), uV, uV, iV 0, .pointer (some ⟨b1, 2, none⟩), .slice A4 v3.At.length c5, iV i7, .pointer (some ⟨b20, of21 + (i7 : Int).toNat * 3, none⟩), .pointer (some ⟨b20, of21 + (i7 : Int).toNat * 3 + 1, none⟩), iV ((rd v3.At i7).Hi), .pointer (some ⟨b1, 2, none⟩), uV, uV, uV, uV, uV, uV, uV, uV, uV, uV, uV], []⟩) rfl (by kernel_rfl) (by kernel_rfl) (by kernel_rfl) hnp (Sg.g0 (Sx.of [] (FM.le.refl _) HS14)) ?_
  refine takeGQ 7 [] rfl (by kernel_rfl) (by kernel_rfl) (by kernel_rfl) (by kernel_rfl) (by kernel_rfl) (by kernel_rfl) hnp (Sg.g0 (Sx.of [] (FM.le.refl _) HS14)) (fun w_ hw_ => by obtain ⟨g_, hl_, hS_⟩ := hw_.st; exact run_load rfl Try.underlying32 rfl (by kernel_rfl : _ = Value.pointer (some ⟨b1, 2, none⟩)) (hS_.cell 2)) ?_
  have hq_ := guard_some h; clear h; obtain ⟨c23, h⟩ := hq_
  have c23 : 0 ≤ j8 := c23
  have hq_ := guard_some h; clear h; obtain ⟨c24, h⟩ := hq_
  have c24 : j8 < (v3.At.length : Int) := c24
  obtain ⟨b28, of29, cs25, hA30, hr26, hc27⟩ := HR6.at (i := j8) c23 c24
  obtain rfl := hr26
  refine takeG [8] (n := 11) (fuel := 10) (l' := #[true, true, true, true, true, true, true, true, true, false, false, false, false, false, false, false, false, false, false]) (a' := ⟨#[iV i7, iV j8, .pointer (some ⟨b1, 0, none⟩), uV, uV, iV 0, .pointer (some ⟨b1, 2, none⟩), .slice A4 v3.At.length c5, iV i7, .pointer (some ⟨b20, of21 + (i7 : Int).toNat * 3, none⟩), .pointer (some ⟨b20, of21 + (i7 : Int).toNat * 3 + 1, none⟩), iV ((rd v3.At i7).Hi), .pointer (some ⟨b1, 2, none⟩), .slice A4 v3.At.length c5, iV j8, uV, uV, uV, uV, uV, uV, uV, uV, uV], []⟩) rfl (by kernel_rfl) (by kernel_rfl) (by kernel_rfl) hnp (Sg.g0 (Sx.of [] (FM.le.refl _) HS14)) ?_
  refine takeGQ 9 [] rfl (by kernel_rfl) (by kernel_rfl) (by kernel_rfl) (by kernel_rfl) (by kernel_rfl) (by kernel_rfl) hnp (Sg.g0 (Sx.of [] (FM.le.refl _) HS14)) (fun w_ hw_ => by obtain ⟨g_, hl_, hS_⟩ := hw_.st; exact run_indexE hA30 (sz := 3) rfl Try.underlying32 (by kernel_rfl) (by kernel_rfl : _ = Value.slice A4 v3.At.length c5) (by kernel_rfl : _ = Value.int .i64 j8) c23 c24 w_) ?_
  refine takeG [10] (n := 9) (fuel := 8) (l' := #[true, true, true, true, true, true, true, true, true, true, true, false, false, false, false, false, false, false, false]) (a' := ⟨#[iV i7, iV j8, .pointer (some ⟨b1, 0, none⟩), uV, uV, iV 0, .pointer (some ⟨b1, 2, none⟩), .slice A4 v3.At.length c5, iV i7, .pointer (some ⟨b20, of21 + (i7 : Int).toNat * 3, none⟩), .pointer (some ⟨b20, of21 + (i7 : Int).toNat * 3 + 1, none⟩), iV ((rd v3.At i7).Hi), .pointer (some ⟨b1, 2, none⟩), .slice A4 v3.At.length c5, iV j8, .pointer (some ⟨b28, of29 + (j8 : Int).toNat * 3, none⟩), .pointer (some ⟨b28, of29 + (j8 : Int).toNat * 3 + 1, none⟩), uV, uV, uV, uV, uV, uV, uV], []⟩) rfl (by kernel_rfl) (by kernel_rfl) (by kernel_rfl) hnp (Sg.g0 (Sx.of [] (FM.le.refl _) HS14)) ?_
  refine takeGQ 11 [] rfl (by kernel_rfl) (by kernel_rfl) (by kernel_rfl) (by kernel_rfl) (by kernel_rfl) (by kernel_rfl) hnp (Sg.g0 (Sx.of [] (FM.le.refl _) HS14)) (fun w_ hw_ => by obtain ⟨g_, hl_, hS_⟩ := hw_.st; exact run_load rfl Try.underlying42 rfl (by kernel_rfl : _ = Value.pointer (some ⟨b28, of29 + (j8 : Int).toNat * 3 + 1, none⟩)) ((hc27 hl_ hS_) 1 (by decide))) ?_
  refine takeG [13, 14, 15] (n := 7) (fuel := 4) (l' := #[true, true, true, true, true, true, true, true, true, true, true, true, false, true, true, true, false, false, false]) (a' := ⟨#[iV i7, iV j8, .pointer (some ⟨b1, 0, none⟩), uV, uV, iV 0, .pointer (some ⟨b1, 2, none⟩), .slice A4 v3.At.length c5, iV i7, .pointer (some ⟨b20, of21 + (i7 : Int).toNat * 3, none⟩), .pointer (some ⟨b20, of21 + (i7 : Int).toNat * 3 + 1, none⟩), iV ((rd v3.At i7).Hi), .pointer (some ⟨b1, 2, none⟩), .slice A4 v3.At.length c5, iV j8, .pointer (some ⟨b28, of29 + (j8 : Int).toNat * 3, none⟩), .pointer (some ⟨b28, of29 + (j8 : Int).toNat * 3 + 1, none⟩), iV ((rd v3.At j8).Hi), uV, iV i7, iV j8, iV (w64 (i7 - j8)), uV, uV], []⟩) rfl (by kernel_rfl) (by kernel_rfl) (by kernel_rfl) hnp (Sg.g0 (Sx.of [] (FM.le.refl _) HS14)) ?_
  have hq_ := bind_some h; clear h; obtain ⟨vt31, hc32, h⟩ := hq_
  refine takeGE 12 (by kernel_rfl) rfl (by kernel_rfl) (does_call (f := 67) (args := #[.int .i64 ((rd v3.At i7).Hi), .int .i64 ((rd v3.At j8).Hi)]) (by kernel_rfl) (cmp_Compare_Quanta.calls k ((rd v3.At i7).Hi) ((rd v3.At j8).Hi) HS14 vt31 hc32) ?_)
  rintro _ W35 ⟨f33, rfl, L34, HS36⟩
  refine ⟨_, rfl, ?_⟩
  refine ⟨(Sg.g0 (Sx.of [] L34 HS36)), ?_⟩
  refine takeGE 16 (by kernel_rfl) rfl (by kernel_rfl) (does_lit (e := (tInt .i64)) (E := 3) (vs := #[(0, Value.int .i64 vt31), (1, Value.int .i64 (w64 (i7 - j8)))]) (cs := #[.int .i64 vt31, .int .i64 (w64 (i7 - j8))]) (xs := ([vt31, w64 (i7 - j8)] : List Int)) rfl Try.underlying22 (by kernel_rfl) (by kernel_rfl) ⟨[.int .i64 vt31], _, rfl, rfl, ⟨[.int .i64 (w64 (i7 - j8))], _, rfl, rfl, rfl⟩⟩ rfl HS36 ?_ (by decide))
  intro b37 W38 s39 HS40 _ HO41
  refine ⟨(Sg.g0 (Sx.of [s39] L34 HS40)), ?_⟩
  obtain ⟨f43, L44, HS45, HR46, th47⟩ := HO41.lend HS40
  have hq_ := bind_some h; clear h; obtain ⟨vt48, hc49, h⟩ := hq_
  refine takeGE 17 (by kernel_rfl) rfl (by kernel_rfl) (does_call (f := 66) (args := #[.slice (some ⟨b37, 0, none⟩) ([vt31, w64 (i7 - j8)] : List Int).length 2]) (by kernel_rfl) (cmp_Or_int.calls k (some ⟨b37, 0, none⟩) 2 ([vt31, w64 (i7 - j8)] : List Int) HS45 HR46 vt48 hc49) ?_)
  rintro _ W52 ⟨f50, rfl, L51, HS53⟩
  refine ⟨_, rfl, ?_⟩
  obtain ⟨f54, L55, HS56⟩ := th47 L51 HS53
  refine ⟨(Sg.g0 (Sx.of [s39] (L34.trans L55) HS56)), ?_⟩
  refine takeG [18] (n := 1) (fuel := 0) (l' := #[true, true, true, true, true, true, true, true, true, true, true, true, true, true, true, true, true, true, true]) (a' := ⟨#[iV i7, iV j8, .pointer (some ⟨b1, 0, none⟩), uV, uV, iV vt48, .pointer (some ⟨b1, 2, none⟩), .slice A4 v3.At.length c5, iV i7, .pointer (some ⟨b20, of21 + (i7 : Int).toNat * 3, none⟩), .pointer (some ⟨b20, of21 + (i7 : Int).toNat * 3 + 1, none⟩), iV ((rd v3.At i7).Hi), .pointer (some ⟨b1, 2, none⟩), .slice A4 v3.At.length c5, iV j8, .pointer (some ⟨b28, of29 + (j8 : Int).toNat * 3, none⟩), .pointer (some ⟨b28, of29 + (j8 : Int).toNat * 3 + 1, none⟩), iV ((rd v3.At j8).Hi), iV vt31, iV i7, iV j8, iV (w64 (i7 - j8)), .slice (some ⟨b37, 0, none⟩) ([vt31, w64 (i7 - j8)] : List Int).length 2, iV vt48], []⟩) rfl (by kernel_rfl) (by kernel_rfl) (by kernel_rfl) hnp (Sg.g0 (Sx.of [s39] (L34.trans L55) HS56)) ?_
  refine doneG (by kernel_rfl) ?_ _
  refine hK12 _ _ ?_
  refine wp_ret ?_
  refine hret _ _ ?_
  refine ends_still (v := Value.int .i64 vt48) (by kernel_rfl) (by kernel_rfl) ?_
  have HS57 := HS56.drop
  injection h with h
  subst h
  exact ⟨f54, rfl, (L34.trans L55), HS57⟩

set_option maxRecDepth 100000 in
set_option maxHeartbeats 4000000 in
theorem slices_MinFunc_int__level_Witness_1.calls (k : Nat) (b1 : Nat) (A4 : Option Addr) (c5 : Nat) (A8 : Option Addr) (c9 : Nat) (v3 : S_Cells) (x7 : List Int) {t w : World} {f : FM} {H : List Seg} (HS : St t w f ([(b1, .cells #[.int .i64 v3.W, .int .i64 v3.H, .slice A4 v3.At.length c5] 34 (0, 0))] :: H)) (HR6 : SlR ty_Bound f A4 c5 v3.At) (HR10 : SlR (tInt .i64) f A8 c9 x7) (r1 : Int) (h : slices_MinFunc_int__level_Witness_1 k v3 x7 = some r1) :
    Calls Try.prog 64 #[.slice A8 x7.length c9, .func (.func 65) #[] #[.pointer (some ⟨b1, 0, none⟩)]] w (fun e w' => ∃ (g : FM), e = .returned (Value.int .i64 r1) ∧ FM.le f g ∧ St t w' g ([(b1, .cells #[.int .i64 v3.W, .int .i64 v3.H, .slice A4 v3.At.length c5] 34 (0, 0))] :: H)) := by
  unfold slices_MinFunc_int__level_Witness_1 at h
  refine enter Try.func64 rfl (tm := #[.slice A8 x7.length c9, .func (.func 65) #[] #[.pointer (some ⟨b1, 0, none⟩)], uV, uV, uV, uV, uV, uV, uV, uV, uV, uV, uV, uV, uV, uV, uV, uV, uV, uV, uV, uV, uV, uV, uV, uV, uV, uV, uV, uV, uV, uV, uV]) (by kernel_rfl) ?_
  intro B hret hnor hnp
  refine wp_seq_k (fun K11 hK12 => ?_)
  refine wp_region_lit ?_
  refine seqS1 (a' := ⟨#[.slice A8 x7.length c9, .func (.func 65) #[] #[.pointer (some ⟨b1, 0, none⟩)], uV, uV, iV 0, uV, uV, uV, uV, uV, uV, uV, uV, uV, uV, uV, uV, uV, uV, uV, uV, uV, uV, uV, uV, uV, uV, uV, uV, uV, uV, uV, uV], []⟩) (by kernel_rfl) ?_
  refine wpList_nil ?_
  refine hK12 _ _ ?_
  refine wp_seq_k (fun K13 hK14 => ?_)
  refine wp_seq_k (fun K15 hK16 => ?_)
  refine wp_region_lit ?_
  refine seqS3 (a' := ⟨#[.slice A8 x7.length c9, .func (.func 65) #[] #[.pointer (some ⟨b1, 0, none⟩)], uV, uV, iV 0, uV, uV, .slice A8 x7.length c9, iV (x7.length : Int), .bool (decide ((x7.length : Int) < 1)), uV, uV, uV, uV, uV, uV, uV, uV, uV, uV, uV, uV, uV, uV, uV, uV, uV, uV, uV, uV, uV, uV, uV], []⟩) (by kernel_rfl) ?_
  refine wpList_nil ?_
  refine hK16 _ _ ?_
  have hq_ := ite_some h; clear h; rcases hq_ with ⟨c18, h⟩ | ⟨c18, h⟩
  · have c18 : (x7.length : Int) < 1 := c18
    refine wpRwI 9 (x := (decide ((x7.length : Int) < 1))) (v := true) (by kernel_rfl) (decide_eq_true c18) ?_
    refine condT (by kernel_rfl) ?_
    exact nomatch h
  · have c18 : ¬ ((x7.length : Int) < 1) := c18
    refine wpRwI 9 (x := (decide ((x7.length : Int) < 1))) (v := false) (by kernel_rfl) (decide_eq_false c18) ?_
    refine condF (by kernel_rfl) ?_
    refine wp_skip ?_
    refine hK14 _ _ ?_
    refine wp_seq_k (fun K19 hK20 => ?_)
    refine wp_region_lit ?_
    have hq_ := guard_some h; clear h; obtain ⟨c21, h⟩ := hq_
    have c21 : 0 < (x7.length : Int) := c21
    obtain ⟨b25, of26, cs22, hA27, hr23, hc24⟩ := HR10.at (i := 0) (by decide) c21
    obtain rfl := hr23
    refine seqL1 (by kernel_rfl) ?_
    refine seqK rfl (does_run (run_indexE hA27 (sz := 1) rfl Try.underlying22 (by kernel_rfl) (by kernel_rfl : _ = Value.slice A8 x7.length c9) (by kernel_rfl : _ = Value.int .i64 0) (by decide) c21 w) ?_)
    refine seqK rfl (does_run (run_load rfl Try.underlying3 rfl (by kernel_rfl : _ = Value.pointer (some ⟨b25, of26 + (0 : Int).toNat * 1, none⟩)) ((hc24 (FM.le.refl _) HS) 0 (by decide))) ?_)
    refine seqS1 (a' := ⟨#[.slice A8 x7.length c9, .func (.func 65) #[] #[.pointer (some ⟨b1, 0, none⟩)], uV, uV, iV 0, iV (rd x7 0), uV, .slice A8 x7.length c9, iV (x7.length : Int), .bool false, uV, .slice A8 x7.length c9, .pointer (some ⟨b25, of26 + (0 : Int).toNat * 1, none⟩), iV (rd x7 0), uV, uV, uV, uV, uV, uV, uV, uV, uV, uV, uV, uV, uV, uV, uV, uV, uV, uV, uV], []⟩) (by kernel_rfl) ?_
    refine wpList_nil ?_
    refine hK20 _ _ ?_
    refine wp_seq_k (fun K28 hK29 => ?_)
    refine wp_seq_k (fun K30 hK31 => ?_)
    refine wp_region_lit ?_
    refine seqS1 (a' := ⟨#[.slice A8 x7.length c9, .func (.func 65) #[] #[.pointer (some ⟨b1, 0, none⟩)], uV, uV, iV 0, iV (rd x7 0), iV 1, .slice A8 x7.length c9, iV (x7.length : Int), .bool false, uV, .slice A8 x7.length c9, .pointer (some ⟨b25, of26 + (0 : Int).toNat * 1, none⟩), iV (rd x7 0), uV, uV, uV, uV, uV, uV, uV, uV, uV, uV, uV, uV, uV, uV, uV, uV, uV, uV, uV], []⟩) (by kernel_rfl) ?_
    refine wpList_nil ?_
    refine hK31 _ _ ?_
    refine blockK (fun B32 hx33 hn34 hr35 ho36 hp37 => ?_)
    have hq_ := bind_some h; clear h; obtain ⟨o38, hv87, h⟩ := hq_
    have J88 : ∀ (f81 : FM) (m86 : Int) (j85 : Nat → Value) (W83 : World) (a_ : Act), FM.le f f81 → some (m86) = some o38 → St t W83 f81 ([(b1, .cells #[.int .i64 v3.W, .int .i64 v3.H, .slice A4 v3.At.length c5] 34 (0, 0))] :: H) → a_ = ⟨#[.slice A8 x7.length c9, .func (.func 65) #[] #[.pointer (some ⟨b1, 0, none⟩)], uV, uV, iV 0, iV m86, (j85 0), .slice A8 x7.length c9, iV (x7.length : Int), .bool false, uV, .slice A8 x7.length c9, .pointer (some ⟨b25, of26 + (0 : Int).toNat * 1, none⟩), iV (rd x7 0), (j85 1), (j85 2), (j85 3), (j85 4), (j85 5), (j85 6), (j85 7), (j85 8), (j85 9), (j85 10), (j85 11), (j85 12), (j85 13), (j85 14), (j85 15), (j85 16), (j85 17), (j85 18), uV], []⟩ → K28 a_ W83 := by
      intro f81 m86 j85 W83 a_ L82 hj89 HS84  hfr_; subst hfr_
      injection hj89 with hj89; subst hj89; try dsimp only at h
      refine hK29 _ _ ?_
      refine wp_seq_k (fun K90 hK91 => ?_)
      refine wp_region_lit ?_
      refine seqS2 (a' := ⟨#[.slice A8 x7.length c9, .func (.func 65) #[] #[.pointer (some ⟨b1, 0, none⟩)], uV, uV, iV m86, iV m86, (j85 0), .slice A8 x7.length c9, iV (x7.length : Int), .bool false, uV, .slice A8 x7.length c9, .pointer (some ⟨b25, of26 + (0 : Int).toNat * 1, none⟩), iV (rd x7 0), (j85 1), (j85 2), (j85 3), (j85 4), (j85 5), (j85 6), (j85 7), (j85 8), (j85 9), (j85 10), (j85 11), (j85 12), (j85 13), (j85 14), (j85 15), (j85 16), (j85 17), (j85 18), iV m86], []⟩) (by kernel_rfl) ?_
      refine wpList_nil ?_
      refine hK91 _ _ ?_
      refine wp_ret ?_
      refine hret _ _ ?_
      refine ends_still (v := Value.int .i64 m86) (by kernel_rfl) (by kernel_rfl) ?_
      injection h with h
      subst h
      exact ⟨f81, rfl, L82, HS84⟩
    clear h; have h := hv87; clear hv87
    refine loopK (fun n_ a_ w_ => ∃ (f42 : FM) (m47 : Int) (i48 : Int) (j46 : Nat → Value), FM.le f f42 ∧ St t w_ f42 ([(b1, .cells #[.int .i64 v3.W, .int .i64 v3.H, .slice A4 v3.At.length c5] 34 (0, 0))] :: H) ∧ slices_MinFunc_int__level_Witness_1.l0 k x7 v3 n_ m47 i48 = some o38 ∧ a_ = ⟨#[.slice A8 x7.length c9, .func (.func 65) #[] #[.pointer (some ⟨b1, 0, none⟩)], uV, uV, iV 0, iV m47, iV i48, .slice A8 x7.length c9, iV (x7.length : Int), .bool false, uV, .slice A8 x7.length c9, .pointer (some ⟨b25, of26 + (0 : Int).toNat * 1, none⟩), iV (rd x7 0), (j46 0), (j46 1), (j46 2), (j46 3), (j46 4), (j46 5), (j46 6), (j46 7), (j46 8), (j46 9), (j46 10), (j46 11), (j46 12), (j46 13), (j46 14), (j46 15), (j46 16), (j46 17), uV], []⟩) k ⟨f, (rd x7 0), 1, (fun i_ => [undef, undef, undef, undef, undef, undef, undef, undef, undef, undef, undef, undef, undef, undef, undef, undef, undef, undef].getD i_ undef), (FM.le.refl _), HS, h, (by kernel_rfl)⟩ ?_
    clear h
    rintro n41 _ W44 ⟨f42, m47, i48, j46, L43, HS45, h, rfl⟩ K39 hK40
    obtain _ | n41 := n41
    · exact nomatch h
    simp only [slices_MinFunc_int__level_Witness_1.l0] at h
    refine wp_seq_k (fun K49 hK50 => ?_)
    refine wp_seq_k (fun K51 hK52 => ?_)
    refine wp_region_lit ?_
    refine seqS4 (a' := ⟨#[.slice A8 x7.length c9, .func (.func 65) #[] #[.pointer (some ⟨b1, 0, none⟩)], uV, uV, iV 0, iV m47, iV i48, .slice A8 x7.length c9, iV (x7.length : Int), .bool false, uV, .slice A8 x7.length c9, .pointer (some ⟨b25, of26 + (0 : Int).toNat * 1, none⟩), iV (rd x7 0), iV i48, .slice A8 x7.length c9, iV (x7.length : Int), .bool (decide (i48 < (x7.length : Int))), (j46 4), (j46 5), (j46 6), (j46 7), (j46 8), (j46 9), (j46 10), (j46 11), (j46 12), (j46 13), (j46 14), (j46 15), (j46 16), (j46 17), uV], []⟩) (by kernel_rfl) ?_
    refine wpList_nil ?_
    refine hK52 _ _ ?_
    have hq_ := ite_some h; clear h; rcases hq_ with ⟨c54, h⟩ | ⟨c54, h⟩
    · have c54 : i48 < (x7.length : Int) := c54
      refine wpRwI 17 (x := (decide (i48 < (x7.length : Int)))) (v := true) (by kernel_rfl) (decide_eq_true c54) ?_
      refine condT (by kernel_rfl) ?_
      refine wp_skip ?_
      refine hK50 _ _ ?_
      refine wp_seq_k (fun K55 hK56 => ?_)
      refine blockK (fun B57 hx58 hn59 hr60 ho61 hp62 => ?_)
      refine wp_seq_k (fun K64 hK65 => ?_)
      refine wp_region_lit ?_
      have hq_ := guard_some h; clear h; obtain ⟨c66, h⟩ := hq_
      have c66 : 0 ≤ i48 := c66
      obtain ⟨b70, of71, cs67, hA72, hr68, hc69⟩ := (HR10.mono L43).at (i := i48) c66 c54
      obtain rfl := hr68
      refine seqL3 (by kernel_rfl) ?_
      refine seqK rfl (does_run (run_indexE hA72 (sz := 1) rfl Try.underlying22 (by kernel_rfl) (by kernel_rfl : _ = Value.slice A8 x7.length c9) (by kernel_rfl : _ = Value.int .i64 i48) c66 c54 W44) ?_)
      refine seqK rfl (does_run (run_load rfl Try.underlying3 rfl (by kernel_rfl : _ = Value.pointer (some ⟨b70, of71 + (i48 : Int).toNat * 1, none⟩)) ((hc69 (FM.le.refl _) HS45) 0 (by decide))) ?_)
      have hq_ := bind_some h; clear h; obtain ⟨vt73, hc74, h⟩ := hq_
      refine seqL1 (by kernel_rfl) ?_
      refine seqK rfl (does_call (f := 65) (args := #[.int .i64 (rd x7 i48), .int .i64 m47, .pointer (some ⟨b1, 0, none⟩)]) (by kernel_rfl) (level_Witness_1.calls k b1 A4 c5 v3 (rd x7 i48) m47 HS45 (HR6.mono L43) vt73 hc74) ?_)
      rintro _ W77 ⟨f75, rfl, L76, HS78⟩
      refine ⟨_, rfl, ?_⟩
      refine seqS1 (a' := ⟨#[.slice A8 x7.length c9, .func (.func 65) #[] #[.pointer (some ⟨b1, 0, none⟩)], uV, uV, iV 0, iV m47, iV i48, .slice A8 x7.length c9, iV (x7.length : Int), .bool false, uV, .slice A8 x7.length c9, .pointer (some ⟨b25, of26 + (0 : Int).toNat * 1, none⟩), iV (rd x7 0), iV i48, .slice A8 x7.length c9, iV (x7.length : Int), .bool true, (j46 4), (j46 5), .func (.func 65) #[] #[.pointer (some ⟨b1, 0, none⟩)], .slice A8 x7.length c9, iV i48, .pointer (some ⟨b70, of71 + (i48 : Int).toNat * 1, none⟩), iV (rd x7 i48), iV m47, iV vt73, .bool (decide (vt73 < 0)), (j46 14), (j46 15), (j46 16), (j46 17), uV], []⟩) (by kernel_rfl) ?_
      refine wpList_nil ?_
      refine hK65 _ _ ?_
      have hq_ := ite_some h; clear h; rcases hq_ with ⟨c80, h⟩ | ⟨c80, h⟩
      · have c80 : vt73 < 0 := c80
        refine wpRwI 27 (x := (decide (vt73 < 0))) (v := true) (by kernel_rfl) (decide_eq_true c80) ?_
        refine condT (by kernel_rfl) ?_
        refine wp_region_lit ?_
        refine seqL2 (by kernel_rfl) ?_
        refine seqK rfl (does_run (run_indexE hA72 (sz := 1) rfl Try.underlying22 (by kernel_rfl) (by kernel_rfl : _ = Value.slice A8 x7.length c9) (by kernel_rfl : _ = Value.int .i64 i48) c66 c54 W77) ?_)
        refine seqK rfl (does_run (run_load rfl Try.underlying3 rfl (by kernel_rfl : _ = Value.pointer (some ⟨b70, of71 + (i48 : Int).toNat * 1, none⟩)) ((hc69 L76 HS78) 0 (by decide))) ?_)
        refine seqS1 (a' := ⟨#[.slice A8 x7.length c9, .func (.func 65) #[] #[.pointer (some ⟨b1, 0, none⟩)], uV, uV, iV 0, iV (rd x7 i48), iV i48, .slice A8 x7.length c9, iV (x7.length : Int), .bool false, uV, .slice A8 x7.length c9, .pointer (some ⟨b25, of26 + (0 : Int).toNat * 1, none⟩), iV (rd x7 0), iV i48, .slice A8 x7.length c9, iV (x7.length : Int), .bool true, (j46 4), (j46 5), .func (.func 65) #[] #[.pointer (some ⟨b1, 0, none⟩)], .slice A8 x7.length c9, iV i48, .pointer (some ⟨b70, of71 + (i48 : Int).toNat * 1, none⟩), iV (rd x7 i48), iV m47, iV vt73, .bool true, .slice A8 x7.length c9, iV i48, .pointer (some ⟨b70, of71 + (i48 : Int).toNat * 1, none⟩), iV (rd x7 i48), uV], []⟩) (by kernel_rfl) ?_
        refine wpList_nil ?_
        refine hn59 _ _ ?_
        refine hK56 _ _ ?_
        refine wp_region_lit ?_
        refine seqS3 (a' := ⟨#[.slice A8 x7.length c9, .func (.func 65) #[] #[.pointer (some ⟨b1, 0, none⟩)], uV, uV, iV 0, iV (rd x7 i48), iV (w64 (i48 + 1)), .slice A8 x7.length c9, iV (x7.length : Int), .bool false, uV, .slice A8 x7.length c9, .pointer (some ⟨b25, of26 + (0 : Int).toNat * 1, none⟩), iV (rd x7 0), iV i48, .slice A8 x7.length c9, iV (x7.length : Int), .bool true, iV i48, iV (w64 (i48 + 1)), .func (.func 65) #[] #[.pointer (some ⟨b1, 0, none⟩)], .slice A8 x7.length c9, iV i48, .pointer (some ⟨b70, of71 + (i48 : Int).toNat * 1, none⟩), iV (rd x7 i48), iV m47, iV vt73, .bool true, .slice A8 x7.length c9, iV i48, .pointer (some ⟨b70, of71 + (i48 : Int).toNat * 1, none⟩), iV (rd x7 i48), uV], []⟩) (by kernel_rfl) ?_
        refine wpList_nil ?_
        refine hK40 n41 _ _ (Nat.lt_succ_self _) ?_
        exact ⟨f75, (rd x7 i48), (w64 (i48 + 1)), (fun i_ => [Value.int .i64 i48, Value.slice A8 x7.length c9, Value.int .i64 (x7.length : Int), Value.bool true, Value.int .i64 i48, Value.int .i64 (w64 (i48 + 1)), Value.func (.func 65) #[] #[.pointer (some ⟨b1, 0, none⟩)], Value.slice A8 x7.length c9, Value.int .i64 i48, Value.pointer (some ⟨b70, of71 + (i48 : Int).toNat * 1, none⟩), Value.int .i64 (rd x7 i48), Value.int .i64 m47, Value.int .i64 vt73, Value.bool true, Value.slice A8 x7.length c9, Value.int .i64 i48, Value.pointer (some ⟨b70, of71 + (i48 : Int).toNat * 1, none⟩), Value.int .i64 (rd x7 i48)].getD i_ undef), (L43.trans L76), HS78, h, (by kernel_rfl)⟩
      · have c80 : ¬ (vt73 < 0) := c80
        refine wpRwI 27 (x := (decide (vt73 < 0))) (v := false) (by kernel_rfl) (decide_eq_false c80) ?_
        refine condF (by kernel_rfl) ?_
        refine wp_skip ?_
        refine hn59 _ _ ?_
        refine hK56 _ _ ?_
        refine wp_region_lit ?_
        refine seqS3 (a' := ⟨#[.slice A8 x7.length c9, .func (.func 65) #[] #[.pointer (some ⟨b1, 0, none⟩)], uV, uV, iV 0, iV m47, iV (w64 (i48 + 1)), .slice A8 x7.length c9, iV (x7.length : Int), .bool false, uV, .slice A8 x7.length c9, .pointer (some ⟨b25, of26 + (0 : Int).toNat * 1, none⟩), iV (rd x7 0), iV i48, .slice A8 x7.length c9, iV (x7.length : Int), .bool true, iV i48, iV (w64 (i48 + 1)), .func (.func 65) #[] #[.pointer (some ⟨b1, 0, none⟩)], .slice A8 x7.length c9, iV i48, .pointer (some ⟨b70, of71 + (i48 : Int).toNat * 1, none⟩), iV (rd x7 i48), iV m47, iV vt73, .bool false, (j46 14), (j46 15), (j46 16), (j46 17), uV], []⟩) (by kernel_rfl) ?_
        refine wpList_nil ?_
        refine hK40 n41 _ _ (Nat.lt_succ_self _) ?_
        exact ⟨f75, m47, (w64 (i48 + 1)), (fun i_ => [Value.int .i64 i48, Value.slice A8 x7.length c9, Value.int .i64 (x7.length : Int), Value.bool true, Value.int .i64 i48, Value.int .i64 (w64 (i48 + 1)), Value.func (.func 65) #[] #[.pointer (some ⟨b1, 0, none⟩)], Value.slice A8 x7.length c9, Value.int .i64 i48, Value.pointer (some ⟨b70, of71 + (i48 : Int).toNat * 1, none⟩), Value.int .i64 (rd x7 i48), Value.int .i64 m47, Value.int .i64 vt73, Value.bool false, (j46 14), (j46 15), (j46 16), (j46 17)].getD i_ undef), (L43.trans L76), HS78, h, (by kernel_rfl)⟩
    · have c54 : ¬ (i48 < (x7.length : Int)) := c54
      refine wpRwI 17 (x := (decide (i48 < (x7.length : Int)))) (v := false) (by kernel_rfl) (decide_eq_false c54) ?_
      refine condF (by kernel_rfl) ?_
      refine wp_exit ?_
      refine hx33 _ _ ?_
      exact J88 f42 m47 (fun i_ => [Value.int .i64 i48, Value.int .i64 i48, Value.slice A8 x7.length c9, Value.int .i64 (x7.length : Int), Value.bool false, (j46 4), (j46 5), (j46 6), (j46 7), (j46 8), (j46 9), (j46 10), (j46 11), (j46 12), (j46 13), (j46 14), (j46 15), (j46 16), (j46 17)].getD i_ undef) W44 _ L43 h HS45 (by kernel_rfl)

set_option maxRecDepth 100000 in
set_option maxHeartbeats 4000000 in
theorem slices_Clone_int.calls (k : Nat) (A2 : Option Addr) (c3 : Nat) (s1 : List Int) {t w : World} {f : FM} {H : List Seg} (HS : St t w f (H)) (HR4 : SlR (tInt .i64) f A2 c3 s1) (r1 : List Int) (h : slices_Clone_int k s1 = some r1) :
    Calls Try.prog 68 #[.slice A2 s1.length c3] w (fun e w' => ∃ (g : FM) (A31 : Option Addr) (c32 : Nat) (s33 : Seg), e = .returned (Value.slice A31 r1.length c32) ∧ FM.le f g ∧ St t w' g (s33 :: H) ∧ Own (tInt .i64) 3 g A31 c32 s33 r1) := by
  unfold slices_Clone_int at h
  refine enter Try.func68 rfl (tm := #[.slice A2 s1.length c3, uV, uV, uV, uV, uV, uV, uV]) (by kernel_rfl) ?_
  intro B hret hnor hnp
  refine wp_seq_k (fun K5 hK6 => ?_)
  refine wp_region_lit ?_
  refine seqS1 (a' := ⟨#[.slice A2 s1.length c3, uV, .slice none 0 0, uV, uV, uV, uV, uV], []⟩) (by kernel_rfl) ?_
  refine wpList_nil ?_
  refine hK6 _ _ ?_
  refine wp_seq_k (fun K7 hK8 => ?_)
  refine wp_seq_k (fun K9 hK10 => ?_)
  refine wp_region_lit ?_
  refine seqS1 (a' := ⟨#[.slice A2 s1.length c3, uV, .slice none 0 0, .slice A2 s1.length c3, uV, uV, uV, uV], []⟩) (by kernel_rfl) ?_
  obtain _ | ad11 := A2
  · obtain rfl := HR4.nil_eq
    have hq_ := guard_some h; clear h; obtain ⟨_, h⟩ := hq_
    refine seqS1 (a' := ⟨#[.slice none ([] : List Int).length c3, uV, .slice none 0 0, .slice none ([] : List Int).length c3, .bool true, uV, uV, uV], []⟩) (by kernel_rfl) ?_
    refine wpList_nil ?_
    refine hK10 _ _ ?_
    refine condT (by kernel_rfl) ?_
    refine wp_seq_k (fun K27 hK28 => ?_)
    refine wp_region_lit ?_
    refine seqS1 (a' := ⟨#[.slice none ([] : List Int).length c3, uV, .slice none 0 0, .slice none ([] : List Int).length c3, .bool true, uV, uV, uV], []⟩) (by kernel_rfl) ?_
    refine wpList_nil ?_
    refine hK28 _ _ ?_
    refine wp_ret ?_
    refine hret _ _ ?_
    have HS29 := HS.cons_nil
    refine ends_still (v := Value.slice none 0 0) (by kernel_rfl) (by kernel_rfl) ?_
    injection h with h
    subst h
    exact ⟨f, none, 0, [], rfl, FM.le.refl _, HS29, (Own.nil _)⟩
  · refine seqS1 (a' := ⟨#[.slice (some ad11) s1.length c3, uV, .slice none 0 0, .slice (some ad11) s1.length c3, .bool false, uV, uV, uV], []⟩) (by kernel_rfl) ?_
    refine wpList_nil ?_
    refine hK10 _ _ ?_
    refine condF (by kernel_rfl) ?_
    refine wp_skip ?_
    refine hK8 _ _ ?_
    refine wp_seq_k (fun K12 hK13 => ?_)
    refine wp_region_lit ?_
    refine seqK rfl (does_lit (e := (tInt .i64)) (E := 3) (vs := #[]) (cs := #[]) (xs := ([] : List Int)) rfl Try.underlying22 (by kernel_rfl) (by kernel_rfl) rfl rfl HS ?_ (by decide))
    intro b14 W15 s16 HS17 _ HO18
    have hq_ := guard_some h; clear h; obtain ⟨c20, h⟩ := hq_
    have c20 : (([] : List Int).length + s1.length) * 8 ≤ 140737488355328 := c20
    refine seqL1 (by kernel_rfl) ?_
    refine seqK rfl (does_append (e := (tInt .i64)) (E := 3) (xs := ([] : List Int)) (ys := s1) rfl (by kernel_rfl : _ = Value.slice (some ⟨b14, 0, none⟩) ([] : List Int).length 0) (by kernel_rfl : _ = Value.slice (some ad11) s1.length c3) Try.underlying22 inf3 HO18 HS17 (HR4.rc HS17) c20 (lim63 c20 (by decide)) ?_)
    intro A21 c22 s23 W24 HS25 HO26
    refine seqS1 (a' := ⟨#[.slice (some ad11) s1.length c3, uV, .slice A21 (([] : List Int) ++ s1).length c22, .slice (some ad11) s1.length c3, .bool false, .slice (some ⟨b14, 0, none⟩) ([] : List Int).length 0, .slice (some ad11) s1.length c3, .slice A21 (([] : List Int) ++ s1).length c22], []⟩) (by kernel_rfl) ?_
    refine wpList_nil ?_
    refine hK13 _ _ ?_
    refine wp_ret ?_
    refine hret _ _ ?_
    refine ends_still (v := Value.slice A21 (([] : List Int) ++ s1).length c22) (by kernel_rfl) (by kernel_rfl) ?_
    injection h with h
    subst h
    exact ⟨f, A21, c22, s23, rfl, FM.le.refl _, HS25, HO26⟩

theorem slices_Sort_int.calls (k : Nat) (A : Option Addr) (c : Nat) (s : Seg) (xs : List Int) {t w : World} {f : FM} {H : List Seg} (HS : St t w f (s :: H)) (HO : Own (tInt .i64) 3 f A c s xs) (r1 : List Int) (h : slices_Sort_int k xs = some r1) :
    Calls Try.prog 69 #[.slice A xs.length c] w (fun e w' => ∃ (g : FM) (s' : Seg), e = .returned (Value.tuple #[]) ∧ FM.le f g ∧ St t w' g (s' :: H) ∧ Own (tInt .i64) 3 g A c s' r1 ∧ r1.length = xs.length) := by
  unfold slices_Sort_int at h
  have hq_ := guard_some h; clear h; obtain ⟨hl, h⟩ := hq_
  injection h with h; subst h
  exact sort_own Try.slices_Sort_int Try.slices_Sort_int_none HS HO hl

theorem slices_Compact_int.calls (k : Nat) (A : Option Addr) (c : Nat) (s : Seg) (xs : List Int) {t w : World} {f : FM} {H : List Seg} (HS : St t w f (s :: H)) (HO : Own (tInt .i64) 3 f A c s xs) (r1 : List Int) (h : slices_Compact_int k xs = some r1) :
    Calls Try.prog 70 #[.slice A xs.length c] w (fun e w' => ∃ (g : FM) (A' : Option Addr) (c' : Nat) (s' : Seg), e = .returned (Value.slice A' r1.length c') ∧ FM.le f g ∧ St t w' g (s' :: H) ∧ Own (tInt .i64) 3 g A' c' s' r1) := by
  unfold slices_Compact_int at h
  have hq_ := guard_some h; clear h; obtain ⟨hl, h⟩ := hq_
  injection h with h; subst h
  exact compact_own Try.slices_Compact_int Try.slices_Compact_int_empty HS HO hl

set_option maxRecDepth 100000 in
set_option maxHeartbeats 4000000 in
theorem level_Witness.calls (k : Nat) (A2 : Option Addr) (c3 : Nat) (c1 : S_Cells) (least5 : Int) {t w : World} {f : FM} {H : List Seg} (HS : St t w f (H)) (HR4 : SlR ty_Bound f A2 c3 c1.At) (r1 : List Int) (r2 : Int) (h : level_Witness k c1 least5 = some (r1, r2)) :
    Calls Try.prog 36 #[.agg #[.int .i64 c1.W, .int .i64 c1.H, .slice A2 c1.At.length c3], .int .i64 least5] w (fun e w' => ∃ (g : FM) (A153 : Option Addr) (c154 : Nat) (s155 : Seg), e = .returned (Value.tuple #[.slice A153 r1.length c154, .int .i64 r2]) ∧ FM.le f g ∧ St t w' g (s155 :: H) ∧ Own (tInt .i64) 3 g A153 c154 s155 r1) := by
  unfold level_Witness at h
  refine enter Try.func36 rfl (tm := #[.agg #[iV c1.W, iV c1.H, .slice A2 c1.At.length c3], iV least5, uV, uV, uV, uV, uV, uV, uV, uV, uV, uV, uV, uV, uV, uV, uV, uV, uV, uV, uV, uV, uV, uV, uV, uV, uV, uV, uV, uV, uV, uV, uV, uV, uV, uV, uV]) (by kernel_rfl) ?_
  intro B hret hnor hnp
  refine wp_seq_k (fun K6 hK7 => ?_)
  refine wp_region_lit ?_
  refine seqK rfl (does_box (cs := #[.int .i64 c1.W, .int .i64 c1.H, .slice A2 c1.At.length c3]) rfl (by kernel_rfl : _ = Value.agg #[.int .i64 c1.W, .int .i64 c1.H, .slice A2 c1.At.length c3]) rfl HS ?_)
  intro b8 W9 HS10
  refine seqS2 (a' := ⟨#[.agg #[iV c1.W, iV c1.H, .slice A2 c1.At.length c3], iV least5, .pointer (some ⟨b8, 0, none⟩), uV, .slice none 0 0, iV 0, uV, uV, uV, uV, uV, uV, uV, uV, uV, uV, uV, uV, uV, uV, uV, uV, uV, uV, uV, uV, uV, uV, uV, uV, uV, uV, uV, uV, uV, uV, uV], []⟩) (by kernel_rfl) ?_
  refine wpList_nil ?_
  refine hK7 _ _ ?_
  refine wp_seq_k (fun K12 hK13 => ?_)
  refine wp_seq_k (fun K14 hK15 => ?_)
  refine wp_region_lit ?_
  refine seqK rfl (does_run (run_loadN (n := 3) rfl Try.underlying34 rfl (by kernel_rfl) (by kernel_rfl : _ = Value.pointer (some ⟨b8, 0, none⟩)) (cs := [.int .i64 c1.W, .int .i64 c1.H, .slice A2 c1.At.length c3]) rfl (HS10.cells 0 3 _ rfl)) ?_)
  have hq_ := bind_some h; clear h; obtain ⟨vt16, hc17, h⟩ := hq_
  refine seqK rfl (does_call (f := 63) (args := #[.agg #[.int .i64 c1.W, .int .i64 c1.H, .slice A2 c1.At.length c3]]) (by kernel_rfl) (clean_Check.calls k A2 c3 c1 HS10 HR4 vt16 hc17) ?_)
  rintro _ W20 ⟨f18, rfl, L19, HS21⟩
  refine ⟨_, rfl, ?_⟩
  refine seqS1 (a' := ⟨#[.agg #[iV c1.W, iV c1.H, .slice A2 c1.At.length c3], iV least5, .pointer (some ⟨b8, 0, none⟩), uV, .slice none 0 0, iV 0, iV vt16, uV, uV, uV, .agg #[iV c1.W, iV c1.H, .slice A2 c1.At.length c3], iV vt16, uV, uV, uV, uV, uV, uV, uV, uV, uV, uV, uV, uV, uV, uV, uV, uV, uV, uV, uV, uV, uV, uV, uV, uV, uV], []⟩) (by kernel_rfl) ?_
  refine wpList_nil ?_
  refine hK15 _ _ ?_
  refine wp_seq_k (fun K22 hK23 => ?_)
  refine wp_region_lit ?_
  refine seqS2 (a' := ⟨#[.agg #[iV c1.W, iV c1.H, .slice A2 c1.At.length c3], iV least5, .pointer (some ⟨b8, 0, none⟩), uV, .slice none 0 0, iV 0, iV vt16, uV, uV, uV, .agg #[iV c1.W, iV c1.H, .slice A2 c1.At.length c3], iV vt16, iV vt16, .bool (vt16 != 0), uV, uV, uV, uV, uV, uV, uV, uV, uV, uV, uV, uV, uV, uV, uV, uV, uV, uV, uV, uV, uV, uV, uV], []⟩) (by kernel_rfl) ?_
  refine wpList_nil ?_
  refine hK23 _ _ ?_
  have hq_ := ite_some h; clear h; rcases hq_ with ⟨c25, h⟩ | ⟨c25, h⟩
  · have c25 : vt16 ≠ 0 := c25
    refine wpRwI 13 (x := (vt16 != 0)) (v := true) (by kernel_rfl) (bne_iff_ne.mpr c25) ?_
    refine condT (by kernel_rfl) ?_
    refine wp_seq_k (fun K26 hK27 => ?_)
    refine wp_region_lit ?_
    refine seqS3 (a' := ⟨#[.agg #[iV c1.W, iV c1.H, .slice A2 c1.At.length c3], iV least5, .pointer (some ⟨b8, 0, none⟩), uV, .slice none 0 0, iV vt16, iV vt16, uV, uV, uV, .agg #[iV c1.W, iV c1.H, .slice A2 c1.At.length c3], iV vt16, iV vt16, .bool true, iV vt16, uV, uV, uV, uV, uV, uV, uV, uV, uV, uV, uV, uV, uV, uV, uV, uV, uV, uV, uV, uV, uV, uV], []⟩) (by kernel_rfl) ?_
    refine wpList_nil ?_
    refine hK27 _ _ ?_
    refine wp_ret ?_
    refine hret _ _ ?_
    have HS135 := HS21.cons_nil
    refine ends_still (v := Value.tuple #[.slice none 0 0, .int .i64 vt16]) (by kernel_rfl) (by kernel_rfl) ?_
    have HS137 := HS135.u1
    have HS138 := HS137.drop
    injection h with h
    injection h with h0_ h
    subst h0_ h
    exact ⟨f18, none, 0, [], rfl, L19, HS138, (Own.nil _)⟩
  · have c25 : ¬ (vt16 ≠ 0) := c25
    refine wpRwI 13 (x := (vt16 != 0)) (v := false) (by kernel_rfl) (bne_eq_false_iff_eq.mpr (Decidable.of_not_not c25)) ?_
    refine condF (by kernel_rfl) ?_
    refine wp_skip ?_
    refine hK13 _ _ ?_
    refine wp_seq_k (fun K28 hK29 => ?_)
    refine wp_seq_k (fun K30 hK31 => ?_)
    refine wp_region_lit ?_
    refine seqS2 (a' := ⟨#[.agg #[iV c1.W, iV c1.H, .slice A2 c1.At.length c3], iV least5, .pointer (some ⟨b8, 0, none⟩), uV, .slice none 0 0, iV 0, iV vt16, uV, uV, uV, .agg #[iV c1.W, iV c1.H, .slice A2 c1.At.length c3], iV vt16, iV vt16, .bool false, uV, iV least5, .bool (decide (least5 < 1)), uV, uV, uV, uV, uV, uV, uV, uV, uV, uV, uV, uV, uV, uV, uV, uV, uV, uV, uV, uV], []⟩) (by kernel_rfl) ?_
    refine wpList_nil ?_
    refine hK31 _ _ ?_
    have hq_ := ite_some h; clear h; rcases hq_ with ⟨c33, h⟩ | ⟨c33, h⟩
    · have c33 : least5 < 1 := c33
      refine wpRwI 16 (x := (decide (least5 < 1))) (v := true) (by kernel_rfl) (decide_eq_true c33) ?_
      refine condT (by kernel_rfl) ?_
      refine wp_seq_k (fun K34 hK35 => ?_)
      refine wp_region_lit ?_
      refine seqS2 (a' := ⟨#[.agg #[iV c1.W, iV c1.H, .slice A2 c1.At.length c3], iV least5, .pointer (some ⟨b8, 0, none⟩), uV, .slice none 0 0, iV 1, iV vt16, uV, uV, uV, .agg #[iV c1.W, iV c1.H, .slice A2 c1.At.length c3], iV vt16, iV vt16, .bool false, uV, iV least5, .bool true, uV, uV, uV, uV, uV, uV, uV, uV, uV, uV, uV, uV, uV, uV, uV, uV, uV, uV, uV, uV], []⟩) (by kernel_rfl) ?_
      refine wpList_nil ?_
      refine hK35 _ _ ?_
      refine wp_ret ?_
      refine hret _ _ ?_
      have HS139 := HS21.cons_nil
      refine ends_still (v := Value.tuple #[.slice none 0 0, .int .i64 1]) (by kernel_rfl) (by kernel_rfl) ?_
      have HS141 := HS139.u1
      have HS142 := HS141.drop
      injection h with h
      injection h with h0_ h
      subst h0_ h
      exact ⟨f18, none, 0, [], rfl, L19, HS142, (Own.nil _)⟩
    · have c33 : ¬ (least5 < 1) := c33
      refine wpRwI 16 (x := (decide (least5 < 1))) (v := false) (by kernel_rfl) (decide_eq_false c33) ?_
      refine condF (by kernel_rfl) ?_
      refine wp_skip ?_
      refine hK29 _ _ ?_
      refine wp_seq_k (fun K36 hK37 => ?_)
      refine wp_region_lit ?_
      refine seqK rfl (does_run (run_loadN (n := 3) rfl Try.underlying34 rfl (by kernel_rfl) (by kernel_rfl : _ = Value.pointer (some ⟨b8, 0, none⟩)) (cs := [.int .i64 c1.W, .int .i64 c1.H, .slice A2 c1.At.length c3]) rfl (HS21.cells 0 3 _ rfl)) ?_)
      have hq_ := bind_some h; clear h; obtain ⟨vt38, hc39, h⟩ := hq_
      refine seqK rfl (does_call (f := 62) (args := #[.agg #[.int .i64 c1.W, .int .i64 c1.H, .slice A2 c1.At.length c3]]) (by kernel_rfl) (level_known.calls k A2 c3 c1 HS21 (HR4.mono L19) vt38 hc39) ?_)
      rintro _ W42 ⟨f40, A44, c45, s46, rfl, L41, HS43, HO47⟩
      refine ⟨_, rfl, ?_⟩
      refine seqS1 (a' := ⟨#[.agg #[iV c1.W, iV c1.H, .slice A2 c1.At.length c3], iV least5, .pointer (some ⟨b8, 0, none⟩), uV, .slice none 0 0, iV 0, iV vt16, .slice A44 vt38.length c45, uV, uV, .agg #[iV c1.W, iV c1.H, .slice A2 c1.At.length c3], iV vt16, iV vt16, .bool false, uV, iV least5, .bool false, .agg #[iV c1.W, iV c1.H, .slice A2 c1.At.length c3], .slice A44 vt38.length c45, uV, uV, uV, uV, uV, uV, uV, uV, uV, uV, uV, uV, uV, uV, uV, uV, uV, uV], []⟩) (by kernel_rfl) ?_
      refine wpList_nil ?_
      refine hK37 _ _ ?_
      refine wp_seq_k (fun K49 hK50 => ?_)
      refine wp_seq_k (fun K51 hK52 => ?_)
      refine wp_region_lit ?_
      refine seqS4 (a' := ⟨#[.agg #[iV c1.W, iV c1.H, .slice A2 c1.At.length c3], iV least5, .pointer (some ⟨b8, 0, none⟩), uV, .slice none 0 0, iV 0, iV vt16, .slice A44 vt38.length c45, uV, uV, .agg #[iV c1.W, iV c1.H, .slice A2 c1.At.length c3], iV vt16, iV vt16, .bool false, uV, iV least5, .bool false, .agg #[iV c1.W, iV c1.H, .slice A2 c1.At.length c3], .slice A44 vt38.length c45, .slice A44 vt38.length c45, iV (vt38.length : Int), iV least5, .bool (decide ((vt38.length : Int) < least5)), uV, uV, uV, uV, uV, uV, uV, uV, uV, uV, uV, uV, uV, uV], []⟩) (by kernel_rfl) ?_
      refine wpList_nil ?_
      refine hK52 _ _ ?_
      have hq_ := ite_some h; clear h; rcases hq_ with ⟨c54, h⟩ | ⟨c54, h⟩
      · have c54 : (vt38.length : Int) < least5 := c54
        refine wpRwI 22 (x := (decide ((vt38.length : Int) < least5))) (v := true) (by kernel_rfl) (decide_eq_true c54) ?_
        refine condT (by kernel_rfl) ?_
        refine wp_seq_k (fun K55 hK56 => ?_)
        refine wp_region_lit ?_
        refine seqS2 (a' := ⟨#[.agg #[iV c1.W, iV c1.H, .slice A2 c1.At.length c3], iV least5, .pointer (some ⟨b8, 0, none⟩), uV, .slice none 0 0, iV 14, iV vt16, .slice A44 vt38.length c45, uV, uV, .agg #[iV c1.W, iV c1.H, .slice A2 c1.At.length c3], iV vt16, iV vt16, .bool false, uV, iV least5, .bool false, .agg #[iV c1.W, iV c1.H, .slice A2 c1.At.length c3], .slice A44 vt38.length c45, .slice A44 vt38.length c45, iV (vt38.length : Int), iV least5, .bool true, uV, uV, uV, uV, uV, uV, uV, uV, uV, uV, uV, uV, uV, uV], []⟩) (by kernel_rfl) ?_
        refine wpList_nil ?_
        refine hK56 _ _ ?_
        refine wp_ret ?_
        refine hret _ _ ?_
        have HS143 := HS43.cons_nil
        refine ends_still (v := Value.tuple #[.slice none 0 0, .int .i64 14]) (by kernel_rfl) (by kernel_rfl) ?_
        have HS145 := HS143.u2
        have HS146 := HS145.u2
        have HS147 := HS146.drop
        have HS148 := HS147.drop
        injection h with h
        injection h with h0_ h
        subst h0_ h
        exact ⟨f40, none, 0, [], rfl, (L19.trans L41), HS148, (Own.nil _)⟩
      · have c54 : ¬ ((vt38.length : Int) < least5) := c54
        refine wpRwI 22 (x := (decide ((vt38.length : Int) < least5))) (v := false) (by kernel_rfl) (decide_eq_false c54) ?_
        refine condF (by kernel_rfl) ?_
        refine wp_skip ?_
        refine hK50 _ _ ?_
        refine wp_seq_k (fun K57 hK58 => ?_)
        refine wp_region_lit ?_
        obtain ⟨f59, L60, HS61, HR62, th63⟩ := HO47.lend HS43
        have hq_ := bind_some h; clear h; obtain ⟨vt64, hc65, h⟩ := hq_
        refine seqL2 (by kernel_rfl) ?_
        refine seqK rfl (does_call (f := 64) (args := #[.slice A44 vt38.length c45, .func (.func 65) #[] #[.pointer (some ⟨b8, 0, none⟩)]]) (by kernel_rfl) (slices_MinFunc_int__level_Witness_1.calls k b8 A2 c3 A44 c45 c1 vt38 HS61 (HR4.mono (L19.trans (L41.trans L60))) HR62 vt64 hc65) ?_)
        rintro _ W68 ⟨f66, rfl, L67, HS69⟩
        refine ⟨_, rfl, ?_⟩
        obtain ⟨f70, L71, HS72⟩ := th63 L67 HS69
        refine seqS1 (a' := ⟨#[.agg #[iV c1.W, iV c1.H, .slice A2 c1.At.length c3], iV least5, .pointer (some ⟨b8, 0, none⟩), uV, .slice none 0 0, iV 0, iV vt16, .slice A44 vt38.length c45, iV vt64, uV, .agg #[iV c1.W, iV c1.H, .slice A2 c1.At.length c3], iV vt16, iV vt16, .bool false, uV, iV least5, .bool false, .agg #[iV c1.W, iV c1.H, .slice A2 c1.At.length c3], .slice A44 vt38.length c45, .slice A44 vt38.length c45, iV (vt38.length : Int), iV least5, .bool false, .slice A44 vt38.length c45, .func (.func 65) #[] #[.pointer (some ⟨b8, 0, none⟩)], iV vt64, uV, uV, uV, uV, uV, uV, uV, uV, uV, uV, uV], []⟩) (by kernel_rfl) ?_
        refine wpList_nil ?_
        refine hK58 _ _ ?_
        refine wp_seq_k (fun K73 hK74 => ?_)
        refine wp_region_lit ?_
        have hq_ := guard_some h; clear h; obtain ⟨c75, h⟩ := hq_
        have c75 : 0 ≤ least5 := c75
        have hq_ := guard_some h; clear h; obtain ⟨c76, h⟩ := hq_
        have c76 : least5 ≤ (vt38.length : Int) := c76
        refine seqL2 (by kernel_rfl) ?_
        refine seqK rfl (does_run (run_cutH (e := (tInt .i64)) (xs := vt38) rfl Try.underlying22 (by kernel_rfl) (by kernel_rfl : _ = Value.slice A44 vt38.length c45) (by kernel_rfl : _ = Value.int .i64 least5) c75 c76 HO47.le W68) ?_)
        obtain ⟨f77, L78, HS79, HR80, th81⟩ := ((HO47.take (least5).toNat).mono L71).lend HS72
        have hq_ := bind_some h; clear h; obtain ⟨vt82, hc83, h⟩ := hq_
        refine seqK rfl (does_call (f := 68) (args := #[.slice A44 (vt38.take (least5).toNat).length c45]) (by kernel_rfl) (slices_Clone_int.calls k A44 c45 (vt38.take (least5).toNat) HS79 HR80 vt82 hc83) ?_)
        rintro _ W86 ⟨f84, A88, c89, s90, rfl, L85, HS87, HO91⟩
        refine ⟨_, rfl, ?_⟩
        obtain ⟨f93, L94, HS95⟩ := th81 L85 HS87
        replace HO91 := HO91.flat (g := f93) (fun _ _ _ _ h_ => h_)
        refine seqL1 (by kernel_rfl) ?_
        refine seqK rfl (does_lit (e := (tInt .i64)) (E := 3) (vs := #[(0, Value.int .i64 vt64)]) (cs := #[.int .i64 vt64]) (xs := ([vt64] : List Int)) rfl Try.underlying22 (by kernel_rfl) (by kernel_rfl) ⟨[.int .i64 vt64], _, rfl, rfl, rfl⟩ rfl HS95 ?_ (by decide))
        intro b96 W97 s98 HS99 _ HO100
        have hq_ := guard_some h; clear h; obtain ⟨c102, h⟩ := hq_
        have c102 : (vt82.length + 1) * 8 ≤ 140737488355328 := c102
        have HS103 := HS99.u2
        have HS104 := HS103.u1
        refine seqK rfl (does_append1 (e := (tInt .i64)) (E := 3) (xs := vt82) (ys := ([vt64] : List Int)) rfl (by kernel_rfl : _ = Value.slice A88 vt82.length c89) (by kernel_rfl : _ = Value.slice (some ⟨b96, 0, none⟩) ([vt64] : List Int).length 1) Try.underlying22 inf3 HO91 HO100 HS104 c102 (lim63 c102 (by decide)) ?_)
        intro A105 c106 s107 W108 HS109 HO110
        refine seqS1 (a' := ⟨#[.agg #[iV c1.W, iV c1.H, .slice A2 c1.At.length c3], iV least5, .pointer (some ⟨b8, 0, none⟩), uV, .slice none 0 0, iV 0, iV vt16, .slice A44 vt38.length c45, iV vt64, .slice A105 (vt82 ++ ([vt64] : List Int)).length c106, .agg #[iV c1.W, iV c1.H, .slice A2 c1.At.length c3], iV vt16, iV vt16, .bool false, uV, iV least5, .bool false, .agg #[iV c1.W, iV c1.H, .slice A2 c1.At.length c3], .slice A44 vt38.length c45, .slice A44 vt38.length c45, iV (vt38.length : Int), iV least5, .bool false, .slice A44 vt38.length c45, .func (.func 65) #[] #[.pointer (some ⟨b8, 0, none⟩)], iV vt64, .slice A44 vt38.length c45, iV least5, .slice A44 (vt38.take (least5).toNat).length c45, .slice A88 vt82.length c89, iV vt64, .slice (some ⟨b96, 0, none⟩) ([vt64] : List Int).length 1, .slice A105 (vt82 ++ ([vt64] : List Int)).length c106, uV, uV, uV, uV], []⟩) (by kernel_rfl) ?_
        refine wpList_nil ?_
        refine hK74 _ _ ?_
        refine wp_seq_k (fun K111 hK112 => ?_)
        refine wp_region_lit ?_
        have hq_ := bind_some h; clear h; obtain ⟨vt113, hc114, h⟩ := hq_
        refine seqL1 (by kernel_rfl) ?_
        refine seqK rfl (does_call (f := 69) (args := #[.slice A105 (vt82 ++ ([vt64] : List Int)).length c106]) (by kernel_rfl) (slices_Sort_int.calls k A105 c106 s107 (vt82 ++ ([vt64] : List Int)) HS109 HO110 vt113 hc114) ?_)
        rintro _ W117 ⟨f115, s119, rfl, L116, HS118, HO120, HL121⟩
        refine ⟨_, rfl, ?_⟩
        refine seqRwS 9 (A := A105) (m := (vt82 ++ ([vt64] : List Int)).length) (n := vt113.length) (c := c106) (by kernel_rfl) (HL121).symm ?_
        refine seqRwS 32 (A := A105) (m := (vt82 ++ ([vt64] : List Int)).length) (n := vt113.length) (c := c106) (by kernel_rfl) (HL121).symm ?_
        refine seqRwS 33 (A := A105) (m := (vt82 ++ ([vt64] : List Int)).length) (n := vt113.length) (c := c106) (by kernel_rfl) (HL121).symm ?_
        refine wpList_nil ?_
        refine hK112 _ _ ?_
        refine wp_seq_k (fun K122 hK123 => ?_)
        refine wp_region_lit ?_
        have hq_ := bind_some h; clear h; obtain ⟨vt124, hc125, h⟩ := hq_
        refine seqL1 (by kernel_rfl) ?_
        refine seqK rfl (does_call (f := 70) (args := #[.slice A105 vt113.length c106]) (by kernel_rfl) (slices_Compact_int.calls k A105 c106 s119 vt113 HS118 HO120 vt124 hc125) ?_)
        rintro _ W128 ⟨f126, A130, c131, s132, rfl, L127, HS129, HO133⟩
        refine ⟨_, rfl, ?_⟩
        refine seqS2 (a' := ⟨#[.agg #[iV c1.W, iV c1.H, .slice A2 c1.At.length c3], iV least5, .pointer (some ⟨b8, 0, none⟩), uV, .slice A130 vt124.length c131, iV 0, iV vt16, .slice A44 vt38.length c45, iV vt64, .slice A105 vt113.length c106, .agg #[iV c1.W, iV c1.H, .slice A2 c1.At.length c3], iV vt16, iV vt16, .bool false, uV, iV least5, .bool false, .agg #[iV c1.W, iV c1.H, .slice A2 c1.At.length c3], .slice A44 vt38.length c45, .slice A44 vt38.length c45, iV (vt38.length : Int), iV least5, .bool false, .slice A44 vt38.length c45, .func (.func 65) #[] #[.pointer (some ⟨b8, 0, none⟩)], iV vt64, .slice A44 vt38.length c45, iV least5, .slice A44 (vt38.take (least5).toNat).length c45, .slice A88 vt82.length c89, iV vt64, .slice (some ⟨b96, 0, none⟩) ([vt64] : List Int).length 1, .slice A105 vt113.length c106, .slice A105 vt113.length c106, .tuple #[], .slice A105 vt113.length c106, .slice A130 vt124.length c131], []⟩) (by kernel_rfl) ?_
        refine wpList_nil ?_
        refine hK123 _ _ ?_
        refine wp_ret ?_
        refine hret _ _ ?_
        refine ends_still (v := Value.tuple #[.slice A130 vt124.length c131, .int .i64 0]) (by kernel_rfl) (by kernel_rfl) ?_
        have HS149 := HS129.u2
        have HS150 := HS149.u2
        have HS151 := HS150.drop
        have HS152 := HS151.drop
        injection h with h
        injection h with h0_ h
        subst h0_ h
        exact ⟨f126, A130, c131, s132, rfl, (L19.trans (L41.trans (L71.trans (L94.trans (L116.trans L127))))), HS152, HO133⟩

set_option maxRecDepth 100000 in
set_option maxHeartbeats 4000000 in
theorem level_Of.calls (k : Nat) (A2 : Option Addr) (c3 : Nat) (c1 : S_Cells) (least5 : Int) {t w : World} {f : FM} {H : List Seg} (HS : St t w f (H)) (HR4 : SlR ty_Bound f A2 c3 c1.At) (r1 : S_Bound) (r2 : Int) (h : level_Of k c1 least5 = some (r1, r2)) :
    Calls Try.prog 34 #[.agg #[.int .i64 c1.W, .int .i64 c1.H, .slice A2 c1.At.length c3], .int .i64 least5] w (fun e w' => ∃ (g : FM), e = .returned (Value.tuple #[.agg #[.int .i64 r1.Lo, .int .i64 r1.Hi, .bool r1.Unknown], .int .i64 r2]) ∧ FM.le f g ∧ St t w' g (H)) := by
  unfold level_Of at h
  refine enter Try.func34 rfl (tm := #[.agg #[iV c1.W, iV c1.H, .slice A2 c1.At.length c3], iV least5, uV, uV, uV, uV, uV, uV, uV, uV, uV, uV, uV, uV, uV, uV, uV, uV, uV, uV, uV, uV, uV, uV, uV, uV, uV, uV, uV, uV, uV, uV, uV, uV, uV, uV, uV, uV, uV, uV, uV, uV, uV, uV, uV, uV, uV, uV, uV, uV, uV, uV, uV, uV, uV, uV, uV]) (by kernel_rfl) ?_
  intro B hret hnor hnp
  refine wp_seq_k (fun K6 hK7 => ?_)
  refine wp_region_lit ?_
  refine seqK rfl (does_box (cs := #[.int .i64 c1.W, .int .i64 c1.H, .slice A2 c1.At.length c3]) rfl (by kernel_rfl : _ = Value.agg #[.int .i64 c1.W, .int .i64 c1.H, .slice A2 c1.At.length c3]) rfl HS ?_)
  intro b8 W9 HS10
  refine seqK rfl (does_alloc (z := Value.agg #[.int .i64 0, .int .i64 0, .bool false]) (cs := #[.int .i64 0, .int .i64 0, .bool false]) rfl (by kernel_rfl) rfl HS10 ?_)
  intro b12 W13 HS14
  refine seqS1 (a' := ⟨#[.agg #[iV c1.W, iV c1.H, .slice A2 c1.At.length c3], iV least5, .pointer (some ⟨b8, 0, none⟩), uV, .pointer (some ⟨b12, 0, none⟩), iV 0, uV, uV, uV, uV, uV, uV, uV, uV, uV, uV, uV, uV, uV, uV, uV, uV, uV, uV, uV, uV, uV, uV, uV, uV, uV, uV, uV, uV, uV, uV, uV, uV, uV, uV, uV, uV, uV, uV, uV, uV, uV, uV, uV, uV, uV, uV, uV, uV, uV, uV, uV], []⟩) (by kernel_rfl) ?_
  refine wpList_nil ?_
  refine hK7 _ _ ?_
  refine wp_seq_k (fun K16 hK17 => ?_)
  refine wp_region_lit ?_
  refine seqK rfl (does_run (run_loadN (n := 3) rfl Try.underlying34 rfl (by kernel_rfl) (by kernel_rfl : _ = Value.pointer (some ⟨b8, 0, none⟩)) (cs := [.int .i64 c1.W, .int .i64 c1.H, .slice A2 c1.At.length c3]) rfl (HS14.u1.cells 0 3 _ rfl)) ?_)
  have hq_ := bind_some h; clear h; obtain ⟨⟨vt18, vt19⟩, hc20, h⟩ := hq_
  refine seqL1 (by kernel_rfl) ?_
  refine seqK rfl (does_call (f := 36) (args := #[.agg #[.int .i64 c1.W, .int .i64 c1.H, .slice A2 c1.At.length c3], .int .i64 least5]) (by kernel_rfl) (level_Witness.calls k A2 c3 c1 least5 HS14 HR4 vt18 vt19 hc20) ?_)
  rintro _ W23 ⟨f21, A25, c26, s27, rfl, L22, HS24, HO28⟩
  refine ⟨_, rfl, ?_⟩
  refine seqS5 (a' := ⟨#[.agg #[iV c1.W, iV c1.H, .slice A2 c1.At.length c3], iV least5, .pointer (some ⟨b8, 0, none⟩), uV, .pointer (some ⟨b12, 0, none⟩), iV 0, .slice A25 vt18.length c26, iV vt19, uV, uV, uV, .tuple #[.slice A25 vt18.length c26, iV vt19], .agg #[iV c1.W, iV c1.H, .slice A2 c1.At.length c3], iV least5, .tuple #[.slice A25 vt18.length c26, iV vt19], .slice A25 vt18.length c26, iV vt19, uV, uV, uV, uV, uV, uV, uV, uV, uV, uV, uV, uV, uV, uV, uV, uV, uV, uV, uV, uV, uV, uV, uV, uV, uV, uV, uV, uV, uV, uV, uV, uV, uV, uV, uV, uV, uV, uV, uV, uV], []⟩) (by kernel_rfl) ?_
  refine wpList_nil ?_
  refine hK17 _ _ ?_
  refine wp_seq_k (fun K30 hK31 => ?_)
  refine wp_seq_k (fun K32 hK33 => ?_)
  refine wp_region_lit ?_
  refine seqS2 (a' := ⟨#[.agg #[iV c1.W, iV c1.H, .slice A2 c1.At.length c3], iV least5, .pointer (some ⟨b8, 0, none⟩), uV, .pointer (some ⟨b12, 0, none⟩), iV 0, .slice A25 vt18.length c26, iV vt19, uV, uV, uV, .tuple #[.slice A25 vt18.length c26, iV vt19], .agg #[iV c1.W, iV c1.H, .slice A2 c1.At.length c3], iV least5, .tuple #[.slice A25 vt18.length c26, iV vt19], .slice A25 vt18.length c26, iV vt19, iV vt19, .bool (vt19 != 0), uV, uV, uV, uV, uV, uV, uV, uV, uV, uV, uV, uV, uV, uV, uV, uV, uV, uV, uV, uV, uV, uV, uV, uV, uV, uV, uV, uV, uV, uV, uV, uV, uV, uV, uV, uV, uV, uV], []⟩) (by kernel_rfl) ?_
  refine wpList_nil ?_
  refine hK33 _ _ ?_
  have hq_ := ite_some h; clear h; rcases hq_ with ⟨c35, h⟩ | ⟨c35, h⟩
  · have c35 : vt19 ≠ 0 := c35
    refine wpRwI 18 (x := (vt19 != 0)) (v := true) (by kernel_rfl) (bne_iff_ne.mpr c35) ?_
    refine condT (by kernel_rfl) ?_
    refine wp_seq_k (fun K36 hK37 => ?_)
    refine wp_region_lit ?_
    have HS38 := HS24.u1
    refine seqL2 (by kernel_rfl) ?_
    refine seqK rfl (does_store (n := 3) (vs := [.int .i64 0, .int .i64 0, .bool false]) (cs' := #[.int .i64 0, .int .i64 0, .bool false]) rfl (by kernel_rfl) (by kernel_rfl : _ = Value.pointer (some ⟨b12, 0, none⟩)) (by kernel_rfl : _ = Value.agg #[.int .i64 0, .int .i64 0, .bool false]) rfl rfl (by intro u_ hu_; simp only [List.mem_cons, List.not_mem_nil, or_false] at hu_; rcases hu_ with rfl | rfl | rfl <;> rfl) HS38 (Nat.le_of_ble_eq_true rfl) (by kernel_rfl) ?_)
    intro W39 HS40
    refine seqS1 (a' := ⟨#[.agg #[iV c1.W, iV c1.H, .slice A2 c1.At.length c3], iV least5, .pointer (some ⟨b8, 0, none⟩), uV, .pointer (some ⟨b12, 0, none⟩), iV vt19, .slice A25 vt18.length c26, iV vt19, uV, uV, uV, .tuple #[.slice A25 vt18.length c26, iV vt19], .agg #[iV c1.W, iV c1.H, .slice A2 c1.At.length c3], iV least5, .tuple #[.slice A25 vt18.length c26, iV vt19], .slice A25 vt18.length c26, iV vt19, iV vt19, .bool true, .agg #[iV 0, iV 0, .bool false], iV vt19, uV, uV, uV, uV, uV, uV, uV, uV, uV, uV, uV, uV, uV, uV, uV, uV, uV, uV, uV, uV, uV, uV, uV, uV, uV, uV, uV, uV, uV, uV, uV, uV, uV, uV, uV, uV], []⟩) (by kernel_rfl) ?_
    refine wpList_nil ?_
    refine hK37 _ _ ?_
    refine wp_ret ?_
    refine hret _ _ ?_
    refine ends (v := Value.tuple #[.agg #[.int .i64 0, .int .i64 0, .bool false], .int .i64 vt19]) (results2 (q1 := .cell 4 44) (q2 := .tmp 5) (by kernel_rfl) (resN (n := 3) (cs := [.int .i64 0, .int .i64 0, .bool false]) (by kernel_rfl : _ = Value.pointer (some ⟨b12, 0, none⟩)) Try.underlying44 rfl (by kernel_rfl) rfl (HS40.cells 0 3 _ rfl)) (resT (by kernel_rfl : _ = Value.int .i64 vt19))) (by kernel_rfl) ?_
    have HS343 := HS40.drop
    have HS344 := HS343.drop
    have HS345 := HS344.drop
    injection h with h
    injection h with h0_ h
    subst h0_ h
    exact ⟨f21, rfl, L22, HS345⟩
  · have c35 : ¬ (vt19 ≠ 0) := c35
    refine wpRwI 18 (x := (vt19 != 0)) (v := false) (by kernel_rfl) (bne_eq_false_iff_eq.mpr (Decidable.of_not_not c35)) ?_
    refine condF (by kernel_rfl) ?_
    refine wp_skip ?_
    refine hK31 _ _ ?_
    refine wp_seq_k (fun K41 hK42 => ?_)
    refine heldG (S := Sg t f21 (s27 :: [(b12, .cells #[.int .i64 0, .int .i64 0, .bool false] 44 (0, 0))] :: [(b8, .cells #[.int .i64 c1.W, .int .i64 c1.H, .slice A2 c1.At.length c3] 34 (0, 0))] :: H) []) (n := 14) (by kernel_rfl) rfl HS24 ?_
    intro W43 HS44
    refine takeG [0] (n := 14) (fuel := 13) (l' := #[true, false, false, false, false, false, false, false, false, false, false, false, false, false]) (a' := ⟨#[.agg #[iV c1.W, iV c1.H, .slice A2 c1.At.length c3], iV least5, .pointer (some ⟨b8, 0, none⟩), uV, .pointer (some ⟨b12, 0, none⟩), iV 0, .slice A25 vt18.length c26, iV vt19, uV, uV, uV, .tuple #[.slice A25 vt18.length c26, iV vt19], .agg #[iV c1.W, iV c1.H, .slice A2 c1.At.length c3], iV least5, .tuple #[.slice A25 vt18.length c26, iV vt19], .slice A25 vt18.length c26, iV vt19, iV vt19, .bool false, uV, uV, .pointer (some ⟨b8, 2, none⟩), uV, uV, uV, uV, uV, uV, uV, uV, uV, uV, uV, uV, uV, uV, uV, uV, uV, uV, uV, uV, uV, uV, uV, uV, uV, uV, uV, uV, uV, uV, uV, uV, uV, uV, uV], []⟩) rfl (by kernel_rfl) (by kernel_rfl) (by kernel_rfl) hnp (Sg.g0 (Sx.of [] (FM.le.refl _) HS44)) ?_
    refine takeGQ 1 [] rfl (by kernel_rfl) (by kernel_rfl) (by kernel_rfl) (by kernel_rfl) (by kernel_rfl) (by kernel_rfl) hnp (Sg.g0 (Sx.of [] (FM.le.refl _) HS44)) (fun w_ hw_ => by obtain ⟨g_, hl_, hS_⟩ := hw_.st; exact run_load rfl Try.underlying32 rfl (by kernel_rfl : _ = Value.pointer (some ⟨b8, 2, none⟩)) (hS_.u2.cell 2)) ?_
    refine takeGQ 2 [] rfl (by kernel_rfl) (by kernel_rfl) (by kernel_rfl) (by kernel_rfl) (by kernel_rfl) (by kernel_rfl) hnp (Sg.g0 (Sx.of [] (FM.le.refl _) HS44)) (fun w_ hw_ => by obtain ⟨g_, hl_, hS_⟩ := hw_.st; exact run_loadN (n := 3) rfl Try.underlying34 rfl (by kernel_rfl) (by kernel_rfl : _ = Value.pointer (some ⟨b8, 0, none⟩)) (cs := [.int .i64 c1.W, .int .i64 c1.H, .slice A2 c1.At.length c3]) rfl (hS_.u2.cells 0 3 _ rfl)) ?_
    have hq_ := bind_some h; clear h; obtain ⟨vt45, hc46, h⟩ := hq_
    have hq_ := guard_some h; clear h; obtain ⟨c56, h⟩ := hq_
    have c56 : 0 ≤ (w64 (least5 - 1)) := c56
    have hq_ := guard_some h; clear h; obtain ⟨c66, h⟩ := hq_
    have c66 : (w64 (least5 - 1)) < (vt45.length : Int) := c66
    have hq_ := guard_some h; clear h; obtain ⟨c82, h⟩ := hq_
    have c82 : 0 ≤ (rd vt45 (w64 (least5 - 1))) := c82
    have hq_ := guard_some h; clear h; obtain ⟨c98, h⟩ := hq_
    have c98 : (rd vt45 (w64 (least5 - 1))) < (c1.At.length : Int) := c98
    refine takeG [4, 5] (n := 11) (fuel := 9) (l' := #[true, true, true, false, true, true, false, false, false, false, false, false, false, false]) (a' := ⟨#[.agg #[iV c1.W, iV c1.H, .slice A2 c1.At.length c3], iV least5, .pointer (some ⟨b8, 0, none⟩), uV, .pointer (some ⟨b12, 0, none⟩), iV 0, .slice A25 vt18.length c26, iV vt19, uV, uV, uV, .tuple #[.slice A25 vt18.length c26, iV vt19], .agg #[iV c1.W, iV c1.H, .slice A2 c1.At.length c3], iV least5, .tuple #[.slice A25 vt18.length c26, iV vt19], .slice A25 vt18.length c26, iV vt19, iV vt19, .bool false, uV, uV, .pointer (some ⟨b8, 2, none⟩), .slice A2 c1.At.length c3, .agg #[iV c1.W, iV c1.H, .slice A2 c1.At.length c3], uV, iV least5, iV (w64 (least5 - 1)), uV, uV, uV, uV, uV, uV, uV, uV, uV, uV, uV, uV, uV, uV, uV, uV, uV, uV, uV, uV, uV, uV, uV, uV, uV, uV, uV, uV, uV, uV], []⟩) rfl (by kernel_rfl) (by kernel_rfl) (by kernel_rfl) hnp (Sg.g0 (Sx.of [] (FM.le.refl _) HS44)) ?_
    refine withR #[true, true, true, true, true, true, true, true, true, true, true, true, true, true] ?_
    intro R126 hR127 hR128
    have J129 : ∀ (f99 : FM) (A103 : Option Addr) (c104 : Nat) (s105 : Seg) (b111 : Nat) (of112 : Nat) (b117 : Nat) (of118 : Nat) (b120 : Nat) (W130 : World) (a_ : Act), FM.le f21 f99 → Own (tInt .i64) 3 f99 A103 c104 s105 vt45 → St t W130 f99 ([(b120, .cells #[.int .i64 ((rd c1.At (rd vt45 (w64 (least5 - 1)))).Lo), .int .i64 1099511627776, .bool false] 44 (0, 0))] :: s105 :: s27 :: [(b12, .cells #[.int .i64 0, .int .i64 0, .bool false] 44 (0, 0))] :: [(b8, .cells #[.int .i64 c1.W, .int .i64 c1.H, .slice A2 c1.At.length c3] 34 (0, 0))] :: H) → a_ = ⟨#[.agg #[iV c1.W, iV c1.H, .slice A2 c1.At.length c3], iV least5, .pointer (some ⟨b8, 0, none⟩), uV, .pointer (some ⟨b12, 0, none⟩), iV 0, .slice A25 vt18.length c26, iV vt19, .pointer (some ⟨b120, 0, none⟩), uV, uV, .tuple #[.slice A25 vt18.length c26, iV vt19], .agg #[iV c1.W, iV c1.H, .slice A2 c1.At.length c3], iV least5, .tuple #[.slice A25 vt18.length c26, iV vt19], .slice A25 vt18.length c26, iV vt19, iV vt19, .bool false, uV, uV, .pointer (some ⟨b8, 2, none⟩), .slice A2 c1.At.length c3, .agg #[iV c1.W, iV c1.H, .slice A2 c1.At.length c3], .slice A103 vt45.length c104, iV least5, iV (w64 (least5 - 1)), .pointer (some ⟨b111, of112 + (w64 (least5 - 1) : Int).toNat * 1, none⟩), iV (rd vt45 (w64 (least5 - 1))), .pointer (some ⟨b117, of118 + ((rd vt45 (w64 (least5 - 1))) : Int).toNat * 3, none⟩), .pointer (some ⟨b117, of118 + ((rd vt45 (w64 (least5 - 1))) : Int).toNat * 3, none⟩), iV ((rd c1.At (rd vt45 (w64 (least5 - 1)))).Lo), .agg #[iV ((rd c1.At (rd vt45 (w64 (least5 - 1)))).Lo), iV 1099511627776, .bool false], uV, uV, uV, uV, uV, uV, uV, uV, uV, uV, uV, uV, uV, uV, uV, uV, uV, uV, uV, uV, uV, uV, uV, uV], []⟩ → R126 a_ W130 := by
      intro f99 A103 c104 s105 b111 of112 b117 of118 b120 W130 a_ L100 HO106 HS131 hfr_; subst hfr_
      refine hR127 _ _ ?_
      refine doneG (by kernel_rfl) ?_ _
      refine hK42 _ _ ?_
      refine wp_seq_k (fun K205 hK206 => ?_)
      refine wp_seq_k (fun K207 hK208 => ?_)
      refine wp_region_lit ?_
      refine seqS3 (a' := ⟨#[.agg #[iV c1.W, iV c1.H, .slice A2 c1.At.length c3], iV least5, .pointer (some ⟨b8, 0, none⟩), uV, .pointer (some ⟨b12, 0, none⟩), iV 0, .slice A25 vt18.length c26, iV vt19, .pointer (some ⟨b120, 0, none⟩), uV, uV, .tuple #[.slice A25 vt18.length c26, iV vt19], .agg #[iV c1.W, iV c1.H, .slice A2 c1.At.length c3], iV least5, .tuple #[.slice A25 vt18.length c26, iV vt19], .slice A25 vt18.length c26, iV vt19, iV vt19, .bool false, uV, uV, .pointer (some ⟨b8, 2, none⟩), .slice A2 c1.At.length c3, .agg #[iV c1.W, iV c1.H, .slice A2 c1.At.length c3], .slice A103 vt45.length c104, iV least5, iV (w64 (least5 - 1)), .pointer (some ⟨b111, of112 + (w64 (least5 - 1) : Int).toNat * 1, none⟩), iV (rd vt45 (w64 (least5 - 1))), .pointer (some ⟨b117, of118 + ((rd vt45 (w64 (least5 - 1))) : Int).toNat * 3, none⟩), .pointer (some ⟨b117, of118 + ((rd vt45 (w64 (least5 - 1))) : Int).toNat * 3, none⟩), iV ((rd c1.At (rd vt45 (w64 (least5 - 1)))).Lo), .agg #[iV ((rd c1.At (rd vt45 (w64 (least5 - 1)))).Lo), iV 1099511627776, .bool false], .slice A25 vt18.length c26, iV (vt18.length : Int), iV 0, uV, uV, uV, uV, uV, uV, uV, uV, uV, uV, uV, uV, uV, uV, uV, uV, uV, uV, uV, uV, uV], []⟩) (by kernel_rfl) ?_
      refine wpList_nil ?_
      refine hK208 _ _ ?_
      refine blockK (fun B209 hx210 hn211 hr212 ho213 hp214 => ?_)
      have hq_ := bind_some h; clear h; obtain ⟨o266, hv324, h⟩ := hq_
      have J325 : ∀ (f318 : FM) (x323 : Int) (j322 : Nat → Value) (W320 : World) (a_ : Act), FM.le f99 f318 → some (x323) = some o266 → St t W320 f318 ([(b120, .cells #[.int .i64 ((rd c1.At (rd vt45 (w64 (least5 - 1)))).Lo), .int .i64 x323, .bool false] 44 (0, 0))] :: s105 :: s27 :: [(b12, .cells #[.int .i64 0, .int .i64 0, .bool false] 44 (0, 0))] :: [(b8, .cells #[.int .i64 c1.W, .int .i64 c1.H, .slice A2 c1.At.length c3] 34 (0, 0))] :: H) → a_ = ⟨#[.agg #[iV c1.W, iV c1.H, .slice A2 c1.At.length c3], iV least5, .pointer (some ⟨b8, 0, none⟩), uV, .pointer (some ⟨b12, 0, none⟩), iV 0, .slice A25 vt18.length c26, iV vt19, .pointer (some ⟨b120, 0, none⟩), uV, (j322 0), .tuple #[.slice A25 vt18.length c26, iV vt19], .agg #[iV c1.W, iV c1.H, .slice A2 c1.At.length c3], iV least5, .tuple #[.slice A25 vt18.length c26, iV vt19], .slice A25 vt18.length c26, iV vt19, iV vt19, .bool false, uV, uV, .pointer (some ⟨b8, 2, none⟩), .slice A2 c1.At.length c3, .agg #[iV c1.W, iV c1.H, .slice A2 c1.At.length c3], .slice A103 vt45.length c104, iV least5, iV (w64 (least5 - 1)), .pointer (some ⟨b111, of112 + (w64 (least5 - 1) : Int).toNat * 1, none⟩), iV (rd vt45 (w64 (least5 - 1))), .pointer (some ⟨b117, of118 + ((rd vt45 (w64 (least5 - 1))) : Int).toNat * 3, none⟩), .pointer (some ⟨b117, of118 + ((rd vt45 (w64 (least5 - 1))) : Int).toNat * 3, none⟩), iV ((rd c1.At (rd vt45 (w64 (least5 - 1)))).Lo), .agg #[iV ((rd c1.At (rd vt45 (w64 (least5 - 1)))).Lo), iV 1099511627776, .bool false], .slice A25 vt18.length c26, iV (vt18.length : Int), (j322 1), (j322 2), (j322 3), (j322 4), (j322 5), (j322 6), (j322 7), (j322 8), (j322 9), (j322 10), (j322 11), (j322 12), (j322 13), (j322 14), (j322 15), uV, uV, uV, uV, uV, uV, uV], []⟩ → K205 a_ W320 := by
        intro f318 x323 j322 W320 a_ L319 hj326 HS321  hfr_; subst hfr_
        injection hj326 with hj326; subst hj326; try dsimp only at h
        refine hK206 _ _ ?_
        refine wp_seq_k (fun K327 hK328 => ?_)
        refine wp_seq_k (fun K329 hK330 => ?_)
        refine wp_region_lit ?_
        refine seqL1 (by kernel_rfl) ?_
        refine seqK rfl (does_run (run_load rfl Try.underlying42 rfl (by kernel_rfl : _ = Value.pointer (some ⟨b120, 0, none⟩)) (HS321.cell 0)) ?_)
        refine seqL1 (by kernel_rfl) ?_
        refine seqK rfl (does_run (run_load rfl Try.underlying42 rfl (by kernel_rfl : _ = Value.pointer (some ⟨b120, 1, none⟩)) (HS321.cell 1)) ?_)
        refine seqS1 (a' := ⟨#[.agg #[iV c1.W, iV c1.H, .slice A2 c1.At.length c3], iV least5, .pointer (some ⟨b8, 0, none⟩), uV, .pointer (some ⟨b12, 0, none⟩), iV 0, .slice A25 vt18.length c26, iV vt19, .pointer (some ⟨b120, 0, none⟩), uV, (j322 0), .tuple #[.slice A25 vt18.length c26, iV vt19], .agg #[iV c1.W, iV c1.H, .slice A2 c1.At.length c3], iV least5, .tuple #[.slice A25 vt18.length c26, iV vt19], .slice A25 vt18.length c26, iV vt19, iV vt19, .bool false, uV, uV, .pointer (some ⟨b8, 2, none⟩), .slice A2 c1.At.length c3, .agg #[iV c1.W, iV c1.H, .slice A2 c1.At.length c3], .slice A103 vt45.length c104, iV least5, iV (w64 (least5 - 1)), .pointer (some ⟨b111, of112 + (w64 (least5 - 1) : Int).toNat * 1, none⟩), iV (rd vt45 (w64 (least5 - 1))), .pointer (some ⟨b117, of118 + ((rd vt45 (w64 (least5 - 1))) : Int).toNat * 3, none⟩), .pointer (some ⟨b117, of118 + ((rd vt45 (w64 (least5 - 1))) : Int).toNat * 3, none⟩), iV ((rd c1.At (rd vt45 (w64 (least5 - 1)))).Lo), .agg #[iV ((rd c1.At (rd vt45 (w64 (least5 - 1)))).Lo), iV 1099511627776, .bool false], .slice A25 vt18.length c26, iV (vt18.length : Int), (j322 1), (j322 2), (j322 3), (j322 4), (j322 5), (j322 6), (j322 7), (j322 8), (j322 9), (j322 10), (j322 11), (j322 12), (j322 13), (j322 14), (j322 15), .pointer (some ⟨b120, 0, none⟩), iV ((rd c1.At (rd vt45 (w64 (least5 - 1)))).Lo), .pointer (some ⟨b120, 1, none⟩), iV x323, .bool (decide (((rd c1.At (rd vt45 (w64 (least5 - 1)))).Lo) > x323)), uV, uV], []⟩) (by kernel_rfl) ?_
        refine wpList_nil ?_
        refine hK330 _ _ ?_
        have hq_ := ite_some h; clear h; rcases hq_ with ⟨c332, h⟩ | ⟨c332, h⟩
        · have c332 : ((rd c1.At (rd vt45 (w64 (least5 - 1)))).Lo) > x323 := c332
          refine wpRwI 54 (x := (decide (((rd c1.At (rd vt45 (w64 (least5 - 1)))).Lo) > x323))) (v := true) (by kernel_rfl) (decide_eq_true c332) ?_
          refine condT (by kernel_rfl) ?_
          refine wp_seq_k (fun K333 hK334 => ?_)
          refine wp_region_lit ?_
          have HS335 := HS321.u3
          refine seqL1 (by kernel_rfl) ?_
          refine seqK rfl (does_store (n := 3) (vs := [.int .i64 0, .int .i64 0, .bool false]) (cs' := #[.int .i64 0, .int .i64 0, .bool false]) rfl (by kernel_rfl) (by kernel_rfl : _ = Value.pointer (some ⟨b12, 0, none⟩)) (by kernel_rfl : _ = Value.agg #[.int .i64 0, .int .i64 0, .bool false]) rfl rfl (by intro u_ hu_; simp only [List.mem_cons, List.not_mem_nil, or_false] at hu_; rcases hu_ with rfl | rfl | rfl <;> rfl) HS335 (Nat.le_of_ble_eq_true rfl) (by kernel_rfl) ?_)
          intro W336 HS337
          refine seqS1 (a' := ⟨#[.agg #[iV c1.W, iV c1.H, .slice A2 c1.At.length c3], iV least5, .pointer (some ⟨b8, 0, none⟩), uV, .pointer (some ⟨b12, 0, none⟩), iV 15, .slice A25 vt18.length c26, iV vt19, .pointer (some ⟨b120, 0, none⟩), uV, (j322 0), .tuple #[.slice A25 vt18.length c26, iV vt19], .agg #[iV c1.W, iV c1.H, .slice A2 c1.At.length c3], iV least5, .tuple #[.slice A25 vt18.length c26, iV vt19], .slice A25 vt18.length c26, iV vt19, iV vt19, .bool false, uV, uV, .pointer (some ⟨b8, 2, none⟩), .slice A2 c1.At.length c3, .agg #[iV c1.W, iV c1.H, .slice A2 c1.At.length c3], .slice A103 vt45.length c104, iV least5, iV (w64 (least5 - 1)), .pointer (some ⟨b111, of112 + (w64 (least5 - 1) : Int).toNat * 1, none⟩), iV (rd vt45 (w64 (least5 - 1))), .pointer (some ⟨b117, of118 + ((rd vt45 (w64 (least5 - 1))) : Int).toNat * 3, none⟩), .pointer (some ⟨b117, of118 + ((rd vt45 (w64 (least5 - 1))) : Int).toNat * 3, none⟩), iV ((rd c1.At (rd vt45 (w64 (least5 - 1)))).Lo), .agg #[iV ((rd c1.At (rd vt45 (w64 (least5 - 1)))).Lo), iV 1099511627776, .bool false], .slice A25 vt18.length c26, iV (vt18.length : Int), (j322 1), (j322 2), (j322 3), (j322 4), (j322 5), (j322 6), (j322 7), (j322 8), (j322 9), (j322 10), (j322 11), (j322 12), (j322 13), (j322 14), (j322 15), .pointer (some ⟨b120, 0, none⟩), iV ((rd c1.At (rd vt45 (w64 (least5 - 1)))).Lo), .pointer (some ⟨b120, 1, none⟩), iV x323, .bool true, .agg #[iV 0, iV 0, .bool false], uV], []⟩) (by kernel_rfl) ?_
          refine wpList_nil ?_
          refine hK334 _ _ ?_
          refine wp_ret ?_
          refine hret _ _ ?_
          refine ends (v := Value.tuple #[.agg #[.int .i64 0, .int .i64 0, .bool false], .int .i64 15]) (results2 (q1 := .cell 4 44) (q2 := .tmp 5) (by kernel_rfl) (resN (n := 3) (cs := [.int .i64 0, .int .i64 0, .bool false]) (by kernel_rfl : _ = Value.pointer (some ⟨b12, 0, none⟩)) Try.underlying44 rfl (by kernel_rfl) rfl (HS337.cells 0 3 _ rfl)) (resT (by kernel_rfl : _ = Value.int .i64 15))) (by kernel_rfl) ?_
          have HS346 := HS337.drop
          have HS347 := HS346.drop
          have HS348 := HS347.drop
          have HS349 := HS348.drop
          have HS350 := HS349.drop
          injection h with h
          injection h with h0_ h
          subst h0_ h
          exact ⟨f318, rfl, (L22.trans (L100.trans L319)), HS350⟩
        · have c332 : ¬ (((rd c1.At (rd vt45 (w64 (least5 - 1)))).Lo) > x323) := c332
          refine wpRwI 54 (x := (decide (((rd c1.At (rd vt45 (w64 (least5 - 1)))).Lo) > x323))) (v := false) (by kernel_rfl) (decide_eq_false c332) ?_
          refine condF (by kernel_rfl) ?_
          refine wp_skip ?_
          refine hK328 _ _ ?_
          refine wp_seq_k (fun K338 hK339 => ?_)
          refine wp_region_lit ?_
          refine seqK rfl (does_run (run_loadN (n := 3) rfl Try.underlying44 rfl (by kernel_rfl) (by kernel_rfl : _ = Value.pointer (some ⟨b120, 0, none⟩)) (cs := [.int .i64 ((rd c1.At (rd vt45 (w64 (least5 - 1)))).Lo), .int .i64 x323, .bool false]) rfl (HS321.cells 0 3 _ rfl)) ?_)
          have HS340 := HS321.u3
          refine seqK rfl (does_store (n := 3) (vs := [.int .i64 ((rd c1.At (rd vt45 (w64 (least5 - 1)))).Lo), .int .i64 x323, .bool false]) (cs' := #[.int .i64 ((rd c1.At (rd vt45 (w64 (least5 - 1)))).Lo), .int .i64 x323, .bool false]) rfl (by kernel_rfl) (by kernel_rfl : _ = Value.pointer (some ⟨b12, 0, none⟩)) (by kernel_rfl : _ = Value.agg #[.int .i64 ((rd c1.At (rd vt45 (w64 (least5 - 1)))).Lo), .int .i64 x323, .bool false]) rfl rfl (by intro u_ hu_; simp only [List.mem_cons, List.not_mem_nil, or_false] at hu_; rcases hu_ with rfl | rfl | rfl <;> rfl) HS340 (Nat.le_of_ble_eq_true rfl) (by kernel_rfl) ?_)
          intro W341 HS342
          refine seqS1 (a' := ⟨#[.agg #[iV c1.W, iV c1.H, .slice A2 c1.At.length c3], iV least5, .pointer (some ⟨b8, 0, none⟩), uV, .pointer (some ⟨b12, 0, none⟩), iV 0, .slice A25 vt18.length c26, iV vt19, .pointer (some ⟨b120, 0, none⟩), uV, (j322 0), .tuple #[.slice A25 vt18.length c26, iV vt19], .agg #[iV c1.W, iV c1.H, .slice A2 c1.At.length c3], iV least5, .tuple #[.slice A25 vt18.length c26, iV vt19], .slice A25 vt18.length c26, iV vt19, iV vt19, .bool false, uV, uV, .pointer (some ⟨b8, 2, none⟩), .slice A2 c1.At.length c3, .agg #[iV c1.W, iV c1.H, .slice A2 c1.At.length c3], .slice A103 vt45.length c104, iV least5, iV (w64 (least5 - 1)), .pointer (some ⟨b111, of112 + (w64 (least5 - 1) : Int).toNat * 1, none⟩), iV (rd vt45 (w64 (least5 - 1))), .pointer (some ⟨b117, of118 + ((rd vt45 (w64 (least5 - 1))) : Int).toNat * 3, none⟩), .pointer (some ⟨b117, of118 + ((rd vt45 (w64 (least5 - 1))) : Int).toNat * 3, none⟩), iV ((rd c1.At (rd vt45 (w64 (least5 - 1)))).Lo), .agg #[iV ((rd c1.At (rd vt45 (w64 (least5 - 1)))).Lo), iV 1099511627776, .bool false], .slice A25 vt18.length c26, iV (vt18.length : Int), (j322 1), (j322 2), (j322 3), (j322 4), (j322 5), (j322 6), (j322 7), (j322 8), (j322 9), (j322 10), (j322 11), (j322 12), (j322 13), (j322 14), (j322 15), .pointer (some ⟨b120, 0, none⟩), iV ((rd c1.At (rd vt45 (w64 (least5 - 1)))).Lo), .pointer (some ⟨b120, 1, none⟩), iV x323, .bool false, uV, .agg #[iV ((rd c1.At (rd vt45 (w64 (least5 - 1)))).Lo), iV x323, .bool false]], []⟩) (by kernel_rfl) ?_
          refine wpList_nil ?_
          refine hK339 _ _ ?_
          refine wp_ret ?_
          refine hret _ _ ?_
          refine ends (v := Value.tuple #[.agg #[.int .i64 ((rd c1.At (rd vt45 (w64 (least5 - 1)))).Lo), .int .i64 x323, .bool false], .int .i64 0]) (results2 (q1 := .cell 4 44) (q2 := .tmp 5) (by kernel_rfl) (resN (n := 3) (cs := [.int .i64 ((rd c1.At (rd vt45 (w64 (least5 - 1)))).Lo), .int .i64 x323, .bool false]) (by kernel_rfl : _ = Value.pointer (some ⟨b12, 0, none⟩)) Try.underlying44 rfl (by kernel_rfl) rfl (HS342.cells 0 3 _ rfl)) (resT (by kernel_rfl : _ = Value.int .i64 0))) (by kernel_rfl) ?_
          have HS351 := HS342.drop
          have HS352 := HS351.drop
          have HS353 := HS352.drop
          have HS354 := HS353.drop
          have HS355 := HS354.drop
          injection h with h
          injection h with h0_ h
          subst h0_ h
          exact ⟨f318, rfl, (L22.trans (L100.trans L319)), HS355⟩
      clear h; have h := hv324; clear hv324
      refine loopK (fun n_ a_ w_ => ∃ (f270 : FM) (x275 : Int) (x276 : Int) (j274 : Nat → Value), FM.le f99 f270 ∧ St t w_ f270 ([(b120, .cells #[.int .i64 ((rd c1.At (rd vt45 (w64 (least5 - 1)))).Lo), .int .i64 x276, .bool false] 44 (0, 0))] :: s105 :: s27 :: [(b12, .cells #[.int .i64 0, .int .i64 0, .bool false] 44 (0, 0))] :: [(b8, .cells #[.int .i64 c1.W, .int .i64 c1.H, .slice A2 c1.At.length c3] 34 (0, 0))] :: H) ∧ level_Of.l0 k vt18 c1 n_ x275 x276 = some o266 ∧ a_ = ⟨#[.agg #[iV c1.W, iV c1.H, .slice A2 c1.At.length c3], iV least5, .pointer (some ⟨b8, 0, none⟩), uV, .pointer (some ⟨b12, 0, none⟩), iV 0, .slice A25 vt18.length c26, iV vt19, .pointer (some ⟨b120, 0, none⟩), uV, (j274 0), .tuple #[.slice A25 vt18.length c26, iV vt19], .agg #[iV c1.W, iV c1.H, .slice A2 c1.At.length c3], iV least5, .tuple #[.slice A25 vt18.length c26, iV vt19], .slice A25 vt18.length c26, iV vt19, iV vt19, .bool false, uV, uV, .pointer (some ⟨b8, 2, none⟩), .slice A2 c1.At.length c3, .agg #[iV c1.W, iV c1.H, .slice A2 c1.At.length c3], .slice A103 vt45.length c104, iV least5, iV (w64 (least5 - 1)), .pointer (some ⟨b111, of112 + (w64 (least5 - 1) : Int).toNat * 1, none⟩), iV (rd vt45 (w64 (least5 - 1))), .pointer (some ⟨b117, of118 + ((rd vt45 (w64 (least5 - 1))) : Int).toNat * 3, none⟩), .pointer (some ⟨b117, of118 + ((rd vt45 (w64 (least5 - 1))) : Int).toNat * 3, none⟩), iV ((rd c1.At (rd vt45 (w64 (least5 - 1)))).Lo), .agg #[iV ((rd c1.At (rd vt45 (w64 (least5 - 1)))).Lo), iV 1099511627776, .bool false], .slice A25 vt18.length c26, iV (vt18.length : Int), iV x275, (j274 1), (j274 2), (j274 3), (j274 4), (j274 5), (j274 6), (j274 7), (j274 8), (j274 9), (j274 10), (j274 11), (j274 12), (j274 13), (j274 14), uV, uV, uV, uV, uV, uV, uV], []⟩) k ⟨f99, 0, 1099511627776, (fun i_ => [undef, undef, undef, undef, undef, undef, undef, undef, undef, undef, undef, undef, undef, undef, undef].getD i_ undef), (FM.le.refl _), HS131, h, (by kernel_rfl)⟩ ?_
      clear h
      rintro n269 _ W272 ⟨f270, x275, x276, j274, L271, HS273, h, rfl⟩ K267 hK268
      obtain _ | n269 := n269
      · exact nomatch h
      simp only [level_Of.l0] at h
      refine wp_seq_k (fun K277 hK278 => ?_)
      refine wp_region_lit ?_
      refine seqS1 (a' := ⟨#[.agg #[iV c1.W, iV c1.H, .slice A2 c1.At.length c3], iV least5, .pointer (some ⟨b8, 0, none⟩), uV, .pointer (some ⟨b12, 0, none⟩), iV 0, .slice A25 vt18.length c26, iV vt19, .pointer (some ⟨b120, 0, none⟩), uV, (j274 0), .tuple #[.slice A25 vt18.length c26, iV vt19], .agg #[iV c1.W, iV c1.H, .slice A2 c1.At.length c3], iV least5, .tuple #[.slice A25 vt18.length c26, iV vt19], .slice A25 vt18.length c26, iV vt19, iV vt19, .bool false, uV, uV, .pointer (some ⟨b8, 2, none⟩), .slice A2 c1.At.length c3, .agg #[iV c1.W, iV c1.H, .slice A2 c1.At.length c3], .slice A103 vt45.length c104, iV least5, iV (w64 (least5 - 1)), .pointer (some ⟨b111, of112 + (w64 (least5 - 1) : Int).toNat * 1, none⟩), iV (rd vt45 (w64 (least5 - 1))), .pointer (some ⟨b117, of118 + ((rd vt45 (w64 (least5 - 1))) : Int).toNat * 3, none⟩), .pointer (some ⟨b117, of118 + ((rd vt45 (w64 (least5 - 1))) : Int).toNat * 3, none⟩), iV ((rd c1.At (rd vt45 (w64 (least5 - 1)))).Lo), .agg #[iV ((rd c1.At (rd vt45 (w64 (least5 - 1)))).Lo), iV 1099511627776, .bool false], .slice A25 vt18.length c26, iV (vt18.length : Int), iV x275, .bool (decide (x275 < (vt18.length : Int))), (j274 2), (j274 3), (j274 4), (j274 5), (j274 6), (j274 7), (j274 8), (j274 9), (j274 10), (j274 11), (j274 12), (j274 13), (j274 14), uV, uV, uV, uV, uV, uV, uV], []⟩) (by kernel_rfl) ?_
      refine wpList_nil ?_
      refine hK278 _ _ ?_
      refine wp_seq_k (fun K279 hK280 => ?_)
      have hq_ := ite_some h; clear h; rcases hq_ with ⟨c282, h⟩ | ⟨c282, h⟩
      · have c282 : x275 < (vt18.length : Int) := c282
        refine wpRwI 36 (x := (decide (x275 < (vt18.length : Int)))) (v := true) (by kernel_rfl) (decide_eq_true c282) ?_
        refine condT (by kernel_rfl) ?_
        refine wp_skip ?_
        refine hK280 _ _ ?_
        refine wp_seq_k (fun K283 hK284 => ?_)
        refine blockK (fun B285 hx286 hn287 hr288 ho289 hp290 => ?_)
        refine wp_seq_k (fun K292 hK293 => ?_)
        refine wp_region_lit ?_
        have hq_ := guard_some h; clear h; obtain ⟨c294, h⟩ := hq_
        have c294 : 0 ≤ x275 := c294
        obtain ⟨b298, of299, cs295, hA300, hr296, hc297⟩ := (HO28.mono (L100.trans L271)).at (i := x275) c294 c282
        obtain rfl := hr296
        refine seqK rfl (does_run (run_indexE hA300 (sz := 1) rfl Try.underlying22 (by kernel_rfl) (by kernel_rfl : _ = Value.slice A25 vt18.length c26) (by kernel_rfl : _ = Value.int .i64 x275) c294 c282 W272) ?_)
        refine seqK rfl (does_run (run_load rfl Try.underlying3 rfl (by kernel_rfl : _ = Value.pointer (some ⟨b298, of299 + (x275 : Int).toNat * 1, none⟩)) ((hc297 HS273.u2) 0 (by decide))) ?_)
        refine seqS1 (a' := ⟨#[.agg #[iV c1.W, iV c1.H, .slice A2 c1.At.length c3], iV least5, .pointer (some ⟨b8, 0, none⟩), uV, .pointer (some ⟨b12, 0, none⟩), iV 0, .slice A25 vt18.length c26, iV vt19, .pointer (some ⟨b120, 0, none⟩), uV, iV (rd vt18 x275), .tuple #[.slice A25 vt18.length c26, iV vt19], .agg #[iV c1.W, iV c1.H, .slice A2 c1.At.length c3], iV least5, .tuple #[.slice A25 vt18.length c26, iV vt19], .slice A25 vt18.length c26, iV vt19, iV vt19, .bool false, uV, uV, .pointer (some ⟨b8, 2, none⟩), .slice A2 c1.At.length c3, .agg #[iV c1.W, iV c1.H, .slice A2 c1.At.length c3], .slice A103 vt45.length c104, iV least5, iV (w64 (least5 - 1)), .pointer (some ⟨b111, of112 + (w64 (least5 - 1) : Int).toNat * 1, none⟩), iV (rd vt45 (w64 (least5 - 1))), .pointer (some ⟨b117, of118 + ((rd vt45 (w64 (least5 - 1))) : Int).toNat * 3, none⟩), .pointer (some ⟨b117, of118 + ((rd vt45 (w64 (least5 - 1))) : Int).toNat * 3, none⟩), iV ((rd c1.At (rd vt45 (w64 (least5 - 1)))).Lo), .agg #[iV ((rd c1.At (rd vt45 (w64 (least5 - 1)))).Lo), iV 1099511627776, .bool false], .slice A25 vt18.length c26, iV (vt18.length : Int), iV x275, .bool true, .pointer (some ⟨b298, of299 + (x275 : Int).toNat * 1, none⟩), iV (rd vt18 x275), (j274 4), (j274 5), (j274 6), (j274 7), (j274 8), (j274 9), (j274 10), (j274 11), (j274 12), (j274 13), (j274 14), uV, uV, uV, uV, uV, uV, uV], []⟩) (by kernel_rfl) ?_
        refine wpList_nil ?_
        refine hK293 _ _ ?_
        have HS301 := HS273.u4
        have HS302 := HS301.u4
        have HS303 := HS302.u4
        have HS304 := HS303.u4
        have HS305 := HS304.u4
        refine heldG (S := Sg t f270 (s105 :: s27 :: [(b12, .cells #[.int .i64 0, .int .i64 0, .bool false] 44 (0, 0))] :: [(b8, .cells #[.int .i64 c1.W, .int .i64 c1.H, .slice A2 c1.At.length c3] 34 (0, 0))] :: H) [(10, [(b120, .cells #[.int .i64 ((rd c1.At (rd vt45 (w64 (least5 - 1)))).Lo), .int .i64 x276, .bool false] 44 (0, 0))])]) (n := 11) (by kernel_rfl) rfl HS305 ?_
        intro W306 HS307
        refine takeG [0] (n := 11) (fuel := 10) (l' := #[true, false, false, false, false, false, false, false, false, false, false]) (a' := ⟨#[.agg #[iV c1.W, iV c1.H, .slice A2 c1.At.length c3], iV least5, .pointer (some ⟨b8, 0, none⟩), uV, .pointer (some ⟨b12, 0, none⟩), iV 0, .slice A25 vt18.length c26, iV vt19, .pointer (some ⟨b120, 0, none⟩), uV, iV (rd vt18 x275), .tuple #[.slice A25 vt18.length c26, iV vt19], .agg #[iV c1.W, iV c1.H, .slice A2 c1.At.length c3], iV least5, .tuple #[.slice A25 vt18.length c26, iV vt19], .slice A25 vt18.length c26, iV vt19, iV vt19, .bool false, uV, uV, .pointer (some ⟨b8, 2, none⟩), .slice A2 c1.At.length c3, .agg #[iV c1.W, iV c1.H, .slice A2 c1.At.length c3], .slice A103 vt45.length c104, iV least5, iV (w64 (least5 - 1)), .pointer (some ⟨b111, of112 + (w64 (least5 - 1) : Int).toNat * 1, none⟩), iV (rd vt45 (w64 (least5 - 1))), .pointer (some ⟨b117, of118 + ((rd vt45 (w64 (least5 - 1))) : Int).toNat * 3, none⟩), .pointer (some ⟨b117, of118 + ((rd vt45 (w64 (least5 - 1))) : Int).toNat * 3, none⟩), iV ((rd c1.At (rd vt45 (w64 (least5 - 1)))).Lo), .agg #[iV ((rd c1.At (rd vt45 (w64 (least5 - 1)))).Lo), iV 1099511627776, .bool false], .slice A25 vt18.length c26, iV (vt18.length : Int), iV x275, .bool true, .pointer (some ⟨b298, of299 + (x275 : Int).toNat * 1, none⟩), iV (rd vt18 x275), .pointer (some ⟨b120, 1, none⟩), (j274 5), (j274 6), (j274 7), (j274 8), (j274 9), (j274 10), (j274 11), (j274 12), (j274 13), (j274 14), uV, uV, uV, uV, uV, uV, uV], []⟩) rfl (by kernel_rfl) (by kernel_rfl) (by kernel_rfl) (fun ch_ a_ w_ q_ => (fun ch_ a_ w_ q_ => hnp ch_ a_ w_ (hp214 ch_ a_ w_ q_)) ch_ a_ w_ (hp290 ch_ a_ w_ q_)) (Sg.g1 (Sx.of [[(b120, .cells #[.int .i64 ((rd c1.At (rd vt45 (w64 (least5 - 1)))).Lo), .int .i64 x276, .bool false] 44 (0, 0))]] (FM.le.refl _) HS307) (fun _ => St.only [] HS307 (FM.le.refl _))) ?_
        refine takeGQ 1 [10] rfl (by kernel_rfl) (by kernel_rfl) (by kernel_rfl) (by kernel_rfl) (by kernel_rfl) (by kernel_rfl) (fun ch_ a_ w_ q_ => (fun ch_ a_ w_ q_ => hnp ch_ a_ w_ (hp214 ch_ a_ w_ q_)) ch_ a_ w_ (hp290 ch_ a_ w_ q_)) (Sg.g1 (Sx.of [[(b120, .cells #[.int .i64 ((rd c1.At (rd vt45 (w64 (least5 - 1)))).Lo), .int .i64 x276, .bool false] 44 (0, 0))]] (FM.le.refl _) HS307) (fun _ => St.only [] HS307 (FM.le.refl _))) (fun w_ hw_ => by obtain ⟨g_, hl_, hS_⟩ := hw_.seg (j := 10) (s := [(b120, .cells #[.int .i64 ((rd c1.At (rd vt45 (w64 (least5 - 1)))).Lo), .int .i64 x276, .bool false] 44 (0, 0))]) (by simp) (by simp); exact run_load rfl Try.underlying42 rfl (by kernel_rfl : _ = Value.pointer (some ⟨b120, 1, none⟩)) (hS_.cell 1)) ?_
        refine takeG [2] (n := 9) (fuel := 8) (l' := #[true, true, true, false, false, false, false, false, false, false, false]) (a' := ⟨#[.agg #[iV c1.W, iV c1.H, .slice A2 c1.At.length c3], iV least5, .pointer (some ⟨b8, 0, none⟩), uV, .pointer (some ⟨b12, 0, none⟩), iV 0, .slice A25 vt18.length c26, iV vt19, .pointer (some ⟨b120, 0, none⟩), uV, iV (rd vt18 x275), .tuple #[.slice A25 vt18.length c26, iV vt19], .agg #[iV c1.W, iV c1.H, .slice A2 c1.At.length c3], iV least5, .tuple #[.slice A25 vt18.length c26, iV vt19], .slice A25 vt18.length c26, iV vt19, iV vt19, .bool false, uV, uV, .pointer (some ⟨b8, 2, none⟩), .slice A2 c1.At.length c3, .agg #[iV c1.W, iV c1.H, .slice A2 c1.At.length c3], .slice A103 vt45.length c104, iV least5, iV (w64 (least5 - 1)), .pointer (some ⟨b111, of112 + (w64 (least5 - 1) : Int).toNat * 1, none⟩), iV (rd vt45 (w64 (least5 - 1))), .pointer (some ⟨b117, of118 + ((rd vt45 (w64 (least5 - 1))) : Int).toNat * 3, none⟩), .pointer (some ⟨b117, of118 + ((rd vt45 (w64 (least5 - 1))) : Int).toNat * 3, none⟩), iV ((rd c1.At (rd vt45 (w64 (least5 - 1)))).Lo), .agg #[iV ((rd c1.At (rd vt45 (w64 (least5 - 1)))).Lo), iV 1099511627776, .bool false], .slice A25 vt18.length c26, iV (vt18.length : Int), iV x275, .bool true, .pointer (some ⟨b298, of299 + (x275 : Int).toNat * 1, none⟩), iV (rd vt18 x275), .pointer (some ⟨b120, 1, none⟩), iV x276, .pointer (some ⟨b8, 2, none⟩), (j274 7), (j274 8), (j274 9), (j274 10), (j274 11), (j274 12), (j274 13), (j274 14), uV, uV, uV, uV, uV, uV, uV], []⟩) rfl (by kernel_rfl) (by kernel_rfl) (by kernel_rfl) (fun ch_ a_ w_ q_ => (fun ch_ a_ w_ q_ => hnp ch_ a_ w_ (hp214 ch_ a_ w_ q_)) ch_ a_ w_ (hp290 ch_ a_ w_ q_)) (Sg.g1 (Sx.of [[(b120, .cells #[.int .i64 ((rd c1.At (rd vt45 (w64 (least5 - 1)))).Lo), .int .i64 x276, .bool false] 44 (0, 0))]] (FM.le.refl _) HS307) (fun _ => St.only [] HS307 (FM.le.refl _))) ?_
        refine takeGQ 3 [] rfl (by kernel_rfl) (by kernel_rfl) (by kernel_rfl) (by kernel_rfl) (by kernel_rfl) (by kernel_rfl) (fun ch_ a_ w_ q_ => (fun ch_ a_ w_ q_ => hnp ch_ a_ w_ (hp214 ch_ a_ w_ q_)) ch_ a_ w_ (hp290 ch_ a_ w_ q_)) (Sg.g1 (Sx.of [[(b120, .cells #[.int .i64 ((rd c1.At (rd vt45 (w64 (least5 - 1)))).Lo), .int .i64 x276, .bool false] 44 (0, 0))]] (FM.le.refl _) HS307) (fun _ => St.only [] HS307 (FM.le.refl _))) (fun w_ hw_ => by obtain ⟨g_, hl_, hS_⟩ := hw_.st; exact run_load rfl Try.underlying32 rfl (by kernel_rfl : _ = Value.pointer (some ⟨b8, 2, none⟩)) (hS_.u3.cell 2)) ?_
        have hq_ := guard_some h; clear h; obtain ⟨c308, h⟩ := hq_
        have c308 : 0 ≤ (rd vt18 x275) := c308
        have hq_ := guard_some h; clear h; obtain ⟨c309, h⟩ := hq_
        have c309 : (rd vt18 x275) < (c1.At.length : Int) := c309
        obtain ⟨b313, of314, cs310, hA315, hr311, hc312⟩ := (HR4.mono (L22.trans (L100.trans L271))).at (i := (rd vt18 x275)) c308 c309
        obtain rfl := hr311
        refine takeG [4] (n := 7) (fuel := 6) (l' := #[true, true, true, true, true, false, false, false, false, false, false]) (a' := ⟨#[.agg #[iV c1.W, iV c1.H, .slice A2 c1.At.length c3], iV least5, .pointer (some ⟨b8, 0, none⟩), uV, .pointer (some ⟨b12, 0, none⟩), iV 0, .slice A25 vt18.length c26, iV vt19, .pointer (some ⟨b120, 0, none⟩), uV, iV (rd vt18 x275), .tuple #[.slice A25 vt18.length c26, iV vt19], .agg #[iV c1.W, iV c1.H, .slice A2 c1.At.length c3], iV least5, .tuple #[.slice A25 vt18.length c26, iV vt19], .slice A25 vt18.length c26, iV vt19, iV vt19, .bool false, uV, uV, .pointer (some ⟨b8, 2, none⟩), .slice A2 c1.At.length c3, .agg #[iV c1.W, iV c1.H, .slice A2 c1.At.length c3], .slice A103 vt45.length c104, iV least5, iV (w64 (least5 - 1)), .pointer (some ⟨b111, of112 + (w64 (least5 - 1) : Int).toNat * 1, none⟩), iV (rd vt45 (w64 (least5 - 1))), .pointer (some ⟨b117, of118 + ((rd vt45 (w64 (least5 - 1))) : Int).toNat * 3, none⟩), .pointer (some ⟨b117, of118 + ((rd vt45 (w64 (least5 - 1))) : Int).toNat * 3, none⟩), iV ((rd c1.At (rd vt45 (w64 (least5 - 1)))).Lo), .agg #[iV ((rd c1.At (rd vt45 (w64 (least5 - 1)))).Lo), iV 1099511627776, .bool false], .slice A25 vt18.length c26, iV (vt18.length : Int), iV x275, .bool true, .pointer (some ⟨b298, of299 + (x275 : Int).toNat * 1, none⟩), iV (rd vt18 x275), .pointer (some ⟨b120, 1, none⟩), iV x276, .pointer (some ⟨b8, 2, none⟩), .slice A2 c1.At.length c3, iV (rd vt18 x275), (j274 9), (j274 10), (j274 11), (j274 12), (j274 13), (j274 14), uV, uV, uV, uV, uV, uV, uV], []⟩) rfl (by kernel_rfl) (by kernel_rfl) (by kernel_rfl) (fun ch_ a_ w_ q_ => (fun ch_ a_ w_ q_ => hnp ch_ a_ w_ (hp214 ch_ a_ w_ q_)) ch_ a_ w_ (hp290 ch_ a_ w_ q_)) (Sg.g1 (Sx.of [[(b120, .cells #[.int .i64 ((rd c1.At (rd vt45 (w64 (least5 - 1)))).Lo), .int .i64 x276, .bool false] 44 (0, 0))]] (FM.le.refl _) HS307) (fun _ => St.only [] HS307 (FM.le.refl _))) ?_
        refine takeGQ 5 [] rfl (by kernel_rfl) (by kernel_rfl) (by kernel_rfl) (by kernel_rfl) (by kernel_rfl) (by kernel_rfl) (fun ch_ a_ w_ q_ => (fun ch_ a_ w_ q_ => hnp ch_ a_ w_ (hp214 ch_ a_ w_ q_)) ch_ a_ w_ (hp290 ch_ a_ w_ q_)) (Sg.g1 (Sx.of [[(b120, .cells #[.int .i64 ((rd c1.At (rd vt45 (w64 (least5 - 1)))).Lo), .int .i64 x276, .bool false] 44 (0, 0))]] (FM.le.refl _) HS307) (fun _ => St.only [] HS307 (FM.le.refl _))) (fun w_ hw_ => by obtain ⟨g_, hl_, hS_⟩ := hw_.st; exact run_indexE hA315 (sz := 3) rfl Try.underlying32 (by kernel_rfl) (by kernel_rfl : _ = Value.slice A2 c1.At.length c3) (by kernel_rfl : _ = Value.int .i64 (rd vt18 x275)) c308 c309 w_) ?_
        refine takeG [6] (n := 5) (fuel := 4) (l' := #[true, true, true, true, true, true, true, false, false, false, false]) (a' := ⟨#[.agg #[iV c1.W, iV c1.H, .slice A2 c1.At.length c3], iV least5, .pointer (some ⟨b8, 0, none⟩), uV, .pointer (some ⟨b12, 0, none⟩), iV 0, .slice A25 vt18.length c26, iV vt19, .pointer (some ⟨b120, 0, none⟩), uV, iV (rd vt18 x275), .tuple #[.slice A25 vt18.length c26, iV vt19], .agg #[iV c1.W, iV c1.H, .slice A2 c1.At.length c3], iV least5, .tuple #[.slice A25 vt18.length c26, iV vt19], .slice A25 vt18.length c26, iV vt19, iV vt19, .bool false, uV, uV, .pointer (some ⟨b8, 2, none⟩), .slice A2 c1.At.length c3, .agg #[iV c1.W, iV c1.H, .slice A2 c1.At.length c3], .slice A103 vt45.length c104, iV least5, iV (w64 (least5 - 1)), .pointer (some ⟨b111, of112 + (w64 (least5 - 1) : Int).toNat * 1, none⟩), iV (rd vt45 (w64 (least5 - 1))), .pointer (some ⟨b117, of118 + ((rd vt45 (w64 (least5 - 1))) : Int).toNat * 3, none⟩), .pointer (some ⟨b117, of118 + ((rd vt45 (w64 (least5 - 1))) : Int).toNat * 3, none⟩), iV ((rd c1.At (rd vt45 (w64 (least5 - 1)))).Lo), .agg #[iV ((rd c1.At (rd vt45 (w64 (least5 - 1)))).Lo), iV 1099511627776, .bool false], .slice A25 vt18.length c26, iV (vt18.length : Int), iV x275, .bool true, .pointer (some ⟨b298, of299 + (x275 : Int).toNat * 1, none⟩), iV (rd vt18 x275), .pointer (some ⟨b120, 1, none⟩), iV x276, .pointer (some ⟨b8, 2, none⟩), .slice A2 c1.At.length c3, iV (rd vt18 x275), .pointer (some ⟨b313, of314 + ((rd vt18 x275) : Int).toNat * 3, none⟩), .pointer (some ⟨b313, of314 + ((rd vt18 x275) : Int).toNat * 3 + 1, none⟩), (j274 11), (j274 12), (j274 13), (j274 14), uV, uV, uV, uV, uV, uV, uV], []⟩) rfl (by kernel_rfl) (by kernel_rfl) (by kernel_rfl) (fun ch_ a_ w_ q_ => (fun ch_ a_ w_ q_ => hnp ch_ a_ w_ (hp214 ch_ a_ w_ q_)) ch_ a_ w_ (hp290 ch_ a_ w_ q_)) (Sg.g1 (Sx.of [[(b120, .cells #[.int .i64 ((rd c1.At (rd vt45 (w64 (least5 - 1)))).Lo), .int .i64 x276, .bool false] 44 (0, 0))]] (FM.le.refl _) HS307) (fun _ => St.only [] HS307 (FM.le.refl _))) ?_
        refine takeGQ 7 [] rfl (by kernel_rfl) (by kernel_rfl) (by kernel_rfl) (by kernel_rfl) (by kernel_rfl) (by kernel_rfl) (fun ch_ a_ w_ q_ => (fun ch_ a_ w_ q_ => hnp ch_ a_ w_ (hp214 ch_ a_ w_ q_)) ch_ a_ w_ (hp290 ch_ a_ w_ q_)) (Sg.g1 (Sx.of [[(b120, .cells #[.int .i64 ((rd c1.At (rd vt45 (w64 (least5 - 1)))).Lo), .int .i64 x276, .bool false] 44 (0, 0))]] (FM.le.refl _) HS307) (fun _ => St.only [] HS307 (FM.le.refl _))) (fun w_ hw_ => by obtain ⟨g_, hl_, hS_⟩ := hw_.st; exact run_load rfl Try.underlying42 rfl (by kernel_rfl : _ = Value.pointer (some ⟨b313, of314 + ((rd vt18 x275) : Int).toNat * 3 + 1, none⟩)) ((hc312 hl_ hS_) 1 (by decide))) ?_
        refine takeG [8, 9] (n := 3) (fuel := 1) (l' := #[true, true, true, true, true, true, true, true, true, true, false]) (a' := ⟨#[.agg #[iV c1.W, iV c1.H, .slice A2 c1.At.length c3], iV least5, .pointer (some ⟨b8, 0, none⟩), uV, .pointer (some ⟨b12, 0, none⟩), iV 0, .slice A25 vt18.length c26, iV vt19, .pointer (some ⟨b120, 0, none⟩), uV, iV (rd vt18 x275), .tuple #[.slice A25 vt18.length c26, iV vt19], .agg #[iV c1.W, iV c1.H, .slice A2 c1.At.length c3], iV least5, .tuple #[.slice A25 vt18.length c26, iV vt19], .slice A25 vt18.length c26, iV vt19, iV vt19, .bool false, uV, uV, .pointer (some ⟨b8, 2, none⟩), .slice A2 c1.At.length c3, .agg #[iV c1.W, iV c1.H, .slice A2 c1.At.length c3], .slice A103 vt45.length c104, iV least5, iV (w64 (least5 - 1)), .pointer (some ⟨b111, of112 + (w64 (least5 - 1) : Int).toNat * 1, none⟩), iV (rd vt45 (w64 (least5 - 1))), .pointer (some ⟨b117, of118 + ((rd vt45 (w64 (least5 - 1))) : Int).toNat * 3, none⟩), .pointer (some ⟨b117, of118 + ((rd vt45 (w64 (least5 - 1))) : Int).toNat * 3, none⟩), iV ((rd c1.At (rd vt45 (w64 (least5 - 1)))).Lo), .agg #[iV ((rd c1.At (rd vt45 (w64 (least5 - 1)))).Lo), iV 1099511627776, .bool false], .slice A25 vt18.length c26, iV (vt18.length : Int), iV x275, .bool true, .pointer (some ⟨b298, of299 + (x275 : Int).toNat * 1, none⟩), iV (rd vt18 x275), .pointer (some ⟨b120, 1, none⟩), iV x276, .pointer (some ⟨b8, 2, none⟩), .slice A2 c1.At.length c3, iV (rd vt18 x275), .pointer (some ⟨b313, of314 + ((rd vt18 x275) : Int).toNat * 3, none⟩), .pointer (some ⟨b313, of314 + ((rd vt18 x275) : Int).toNat * 3 + 1, none⟩), iV ((rd c1.At (rd vt18 x275)).Hi), iV (mn x276 ((rd c1.At (rd vt18 x275)).Hi)), .pointer (some ⟨b120, 1, none⟩), (j274 14), uV, uV, uV, uV, uV, uV, uV], []⟩) rfl (by kernel_rfl) (by kernel_rfl) (by kernel_rfl) (fun ch_ a_ w_ q_ => (fun ch_ a_ w_ q_ => hnp ch_ a_ w_ (hp214 ch_ a_ w_ q_)) ch_ a_ w_ (hp290 ch_ a_ w_ q_)) (Sg.g1 (Sx.of [[(b120, .cells #[.int .i64 ((rd c1.At (rd vt45 (w64 (least5 - 1)))).Lo), .int .i64 x276, .bool false] 44 (0, 0))]] (FM.le.refl _) HS307) (fun _ => St.only [] HS307 (FM.le.refl _))) ?_
        refine takeGE 10 (by kernel_rfl) rfl (by kernel_rfl) (does_store (n := 1) (vs := [.int .i64 (mn x276 ((rd c1.At (rd vt18 x275)).Hi))]) (cs' := #[.int .i64 ((rd c1.At (rd vt45 (w64 (least5 - 1)))).Lo), .int .i64 (mn x276 ((rd c1.At (rd vt18 x275)).Hi)), .bool false]) rfl (by kernel_rfl) (by kernel_rfl : _ = Value.pointer (some ⟨b120, 1, none⟩)) (by kernel_rfl : _ = Value.int .i64 (mn x276 ((rd c1.At (rd vt18 x275)).Hi))) rfl rfl (by intro u_ hu_; simp only [List.mem_cons, List.not_mem_nil, or_false] at hu_; subst hu_; rfl) HS307 (Nat.le_of_ble_eq_true rfl) (by kernel_rfl) ?_)
        intro W316 HS317
        refine ⟨(Sg.g1 (Sx.of [[(b120, .cells #[.int .i64 ((rd c1.At (rd vt45 (w64 (least5 - 1)))).Lo), .int .i64 (mn x276 ((rd c1.At (rd vt18 x275)).Hi)), .bool false] 44 (0, 0))]] (FM.le.refl _) HS317) (fun hl_ => Bool.noConfusion (show true = false from hl_))), ?_⟩
        refine doneG (by kernel_rfl) ?_ _
        refine hn287 _ _ ?_
        refine hK284 _ _ ?_
        refine wp_region_lit ?_
        refine seqS2 (a' := ⟨#[.agg #[iV c1.W, iV c1.H, .slice A2 c1.At.length c3], iV least5, .pointer (some ⟨b8, 0, none⟩), uV, .pointer (some ⟨b12, 0, none⟩), iV 0, .slice A25 vt18.length c26, iV vt19, .pointer (some ⟨b120, 0, none⟩), uV, iV (rd vt18 x275), .tuple #[.slice A25 vt18.length c26, iV vt19], .agg #[iV c1.W, iV c1.H, .slice A2 c1.At.length c3], iV least5, .tuple #[.slice A25 vt18.length c26, iV vt19], .slice A25 vt18.length c26, iV vt19, iV vt19, .bool false, uV, uV, .pointer (some ⟨b8, 2, none⟩), .slice A2 c1.At.length c3, .agg #[iV c1.W, iV c1.H, .slice A2 c1.At.length c3], .slice A103 vt45.length c104, iV least5, iV (w64 (least5 - 1)), .pointer (some ⟨b111, of112 + (w64 (least5 - 1) : Int).toNat * 1, none⟩), iV (rd vt45 (w64 (least5 - 1))), .pointer (some ⟨b117, of118 + ((rd vt45 (w64 (least5 - 1))) : Int).toNat * 3, none⟩), .pointer (some ⟨b117, of118 + ((rd vt45 (w64 (least5 - 1))) : Int).toNat * 3, none⟩), iV ((rd c1.At (rd vt45 (w64 (least5 - 1)))).Lo), .agg #[iV ((rd c1.At (rd vt45 (w64 (least5 - 1)))).Lo), iV 1099511627776, .bool false], .slice A25 vt18.length c26, iV (vt18.length : Int), iV (w64 (x275 + 1)), .bool true, .pointer (some ⟨b298, of299 + (x275 : Int).toNat * 1, none⟩), iV (rd vt18 x275), .pointer (some ⟨b120, 1, none⟩), iV x276, .pointer (some ⟨b8, 2, none⟩), .slice A2 c1.At.length c3, iV (rd vt18 x275), .pointer (some ⟨b313, of314 + ((rd vt18 x275) : Int).toNat * 3, none⟩), .pointer (some ⟨b313, of314 + ((rd vt18 x275) : Int).toNat * 3 + 1, none⟩), iV ((rd c1.At (rd vt18 x275)).Hi), iV (mn x276 ((rd c1.At (rd vt18 x275)).Hi)), .pointer (some ⟨b120, 1, none⟩), iV (w64 (x275 + 1)), uV, uV, uV, uV, uV, uV, uV], []⟩) (by kernel_rfl) ?_
        refine wpList_nil ?_
        refine hK268 n269 _ _ (Nat.lt_succ_self _) ?_
        exact ⟨f270, (w64 (x275 + 1)), (mn x276 ((rd c1.At (rd vt18 x275)).Hi)), (fun i_ => [Value.int .i64 (rd vt18 x275), Value.bool true, Value.pointer (some ⟨b298, of299 + (x275 : Int).toNat * 1, none⟩), Value.int .i64 (rd vt18 x275), Value.pointer (some ⟨b120, 1, none⟩), Value.int .i64 x276, Value.pointer (some ⟨b8, 2, none⟩), Value.slice A2 c1.At.length c3, Value.int .i64 (rd vt18 x275), Value.pointer (some ⟨b313, of314 + ((rd vt18 x275) : Int).toNat * 3, none⟩), Value.pointer (some ⟨b313, of314 + ((rd vt18 x275) : Int).toNat * 3 + 1, none⟩), Value.int .i64 ((rd c1.At (rd vt18 x275)).Hi), Value.int .i64 (mn x276 ((rd c1.At (rd vt18 x275)).Hi)), Value.pointer (some ⟨b120, 1, none⟩), Value.int .i64 (w64 (x275 + 1))].getD i_ undef), L271, HS317, h, (by kernel_rfl)⟩
      · have c282 : ¬ (x275 < (vt18.length : Int)) := c282
        refine wpRwI 36 (x := (decide (x275 < (vt18.length : Int)))) (v := false) (by kernel_rfl) (decide_eq_false c282) ?_
        refine condF (by kernel_rfl) ?_
        refine wp_exit ?_
        refine hx210 _ _ ?_
        exact J325 f270 x276 (fun i_ => [(j274 0), Value.int .i64 x275, Value.bool false, (j274 2), (j274 3), (j274 4), (j274 5), (j274 6), (j274 7), (j274 8), (j274 9), (j274 10), (j274 11), (j274 12), (j274 13), (j274 14)].getD i_ undef) W272 _ L271 h HS273 (by kernel_rfl)
    refine takeEither 3 12 (by kernel_rfl) rfl rfl rfl rfl ?_ ?_
    · refine does_call (f := 62) (args := #[.agg #[.int .i64 c1.W, .int .i64 c1.H, .slice A2 c1.At.length c3]]) (by kernel_rfl) (level_known.calls k A2 c3 c1 HS44 (HR4.mono L22) vt45 hc46) ?_
      rintro _ W134 ⟨f132, A136, c137, s138, rfl, L133, HS135, HO139⟩
      refine ⟨_, rfl, ?_⟩
      refine ⟨(Sg.g0 (Sx.of [s138] L133 HS135)), ?_⟩
      obtain ⟨b144, of145, cs141, hA146, hr142, hc143⟩ := HO139.at (i := w64 (least5 - 1)) c56 c66
      obtain rfl := hr142
      refine takeGQ 6 [] rfl (by kernel_rfl) (by kernel_rfl) (by kernel_rfl) (by kernel_rfl) (by kernel_rfl) (by kernel_rfl) hnp (Sg.g0 (Sx.of [s138] L133 HS135)) (fun w_ hw_ => by obtain ⟨g_, hl_, hS_⟩ := hw_.st; exact run_indexE hA146 (sz := 1) rfl Try.underlying22 (by kernel_rfl) (by kernel_rfl : _ = Value.slice A136 vt45.length c137) (by kernel_rfl : _ = Value.int .i64 (w64 (least5 - 1))) c56 c66 w_) ?_
      refine takeEither 7 12 (by kernel_rfl) rfl rfl rfl rfl ?_ ?_
      · refine does_run (run_load rfl Try.underlying3 rfl (by kernel_rfl : _ = Value.pointer (some ⟨b144, of145 + (w64 (least5 - 1) : Int).toNat * 1, none⟩)) ((hc143 HS135) 0 (by decide))) ?_
        refine ⟨(Sg.g0 (Sx.of [s138] L133 HS135)), ?_⟩
        obtain ⟨b150, of151, cs147, hA152, hr148, hc149⟩ := (HR4.mono (L22.trans L133)).at (i := (rd vt45 (w64 (least5 - 1)))) c82 c98
        obtain rfl := hr148
        refine takeGQ 8 [] rfl (by kernel_rfl) (by kernel_rfl) (by kernel_rfl) (by kernel_rfl) (by kernel_rfl) (by kernel_rfl) hnp (Sg.g0 (Sx.of [s138] L133 HS135)) (fun w_ hw_ => by obtain ⟨g_, hl_, hS_⟩ := hw_.st; exact run_indexE hA152 (sz := 3) rfl Try.underlying32 (by kernel_rfl) (by kernel_rfl : _ = Value.slice A2 c1.At.length c3) (by kernel_rfl : _ = Value.int .i64 (rd vt45 (w64 (least5 - 1)))) c82 c98 w_) ?_
        refine takeG [9] (n := 5) (fuel := 4) (l' := #[true, true, true, true, true, true, true, true, true, true, false, false, false, false]) (a' := ⟨#[.agg #[iV c1.W, iV c1.H, .slice A2 c1.At.length c3], iV least5, .pointer (some ⟨b8, 0, none⟩), uV, .pointer (some ⟨b12, 0, none⟩), iV 0, .slice A25 vt18.length c26, iV vt19, uV, uV, uV, .tuple #[.slice A25 vt18.length c26, iV vt19], .agg #[iV c1.W, iV c1.H, .slice A2 c1.At.length c3], iV least5, .tuple #[.slice A25 vt18.length c26, iV vt19], .slice A25 vt18.length c26, iV vt19, iV vt19, .bool false, uV, uV, .pointer (some ⟨b8, 2, none⟩), .slice A2 c1.At.length c3, .agg #[iV c1.W, iV c1.H, .slice A2 c1.At.length c3], .slice A136 vt45.length c137, iV least5, iV (w64 (least5 - 1)), .pointer (some ⟨b144, of145 + (w64 (least5 - 1) : Int).toNat * 1, none⟩), iV (rd vt45 (w64 (least5 - 1))), .pointer (some ⟨b150, of151 + ((rd vt45 (w64 (least5 - 1))) : Int).toNat * 3, none⟩), .pointer (some ⟨b150, of151 + ((rd vt45 (w64 (least5 - 1))) : Int).toNat * 3, none⟩), uV, uV, uV, uV, uV, uV, uV, uV, uV, uV, uV, uV, uV, uV, uV, uV, uV, uV, uV, uV, uV, uV, uV, uV, uV, uV], []⟩) rfl (by kernel_rfl) (by kernel_rfl) (by kernel_rfl) hnp (Sg.g0 (Sx.of [s138] L133 HS135)) ?_
        refine takeEither 10 12 (by kernel_rfl) rfl rfl rfl rfl ?_ ?_
        · refine does_run (run_load rfl Try.underlying42 rfl (by kernel_rfl : _ = Value.pointer (some ⟨b150, of151 + ((rd vt45 (w64 (least5 - 1))) : Int).toNat * 3, none⟩)) ((hc149 (FM.le.refl _) HS135) 0 (by decide))) ?_
          refine ⟨(Sg.g0 (Sx.of [s138] L133 HS135)), ?_⟩
          refine takeG [11] (n := 3) (fuel := 2) (l' := #[true, true, true, true, true, true, true, true, true, true, true, true, false, false]) (a' := ⟨#[.agg #[iV c1.W, iV c1.H, .slice A2 c1.At.length c3], iV least5, .pointer (some ⟨b8, 0, none⟩), uV, .pointer (some ⟨b12, 0, none⟩), iV 0, .slice A25 vt18.length c26, iV vt19, uV, uV, uV, .tuple #[.slice A25 vt18.length c26, iV vt19], .agg #[iV c1.W, iV c1.H, .slice A2 c1.At.length c3], iV least5, .tuple #[.slice A25 vt18.length c26, iV vt19], .slice A25 vt18.length c26, iV vt19, iV vt19, .bool false, uV, uV, .pointer (some ⟨b8, 2, none⟩), .slice A2 c1.At.length c3, .agg #[iV c1.W, iV c1.H, .slice A2 c1.At.length c3], .slice A136 vt45.length c137, iV least5, iV (w64 (least5 - 1)), .pointer (some ⟨b144, of145 + (w64 (least5 - 1) : Int).toNat * 1, none⟩), iV (rd vt45 (w64 (least5 - 1))), .pointer (some ⟨b150, of151 + ((rd vt45 (w64 (least5 - 1))) : Int).toNat * 3, none⟩), .pointer (some ⟨b150, of151 + ((rd vt45 (w64 (least5 - 1))) : Int).toNat * 3, none⟩), iV ((rd c1.At (rd vt45 (w64 (least5 - 1)))).Lo), .agg #[iV ((rd c1.At (rd vt45 (w64 (least5 - 1)))).Lo), iV 1099511627776, .bool false], uV, uV, uV, uV, uV, uV, uV, uV, uV, uV, uV, uV, uV, uV, uV, uV, uV, uV, uV, uV, uV, uV, uV, uV], []⟩) rfl (by kernel_rfl) (by kernel_rfl) (by kernel_rfl) hnp (Sg.g0 (Sx.of [s138] L133 HS135)) ?_
          refine takeGE 12 (by kernel_rfl) rfl (by kernel_rfl) (does_alloc (z := Value.agg #[.int .i64 0, .int .i64 0, .bool false]) (cs := #[.int .i64 0, .int .i64 0, .bool false]) rfl (by kernel_rfl) rfl HS135 ?_)
          intro b153 W154 HS155
          refine ⟨(Sg.g0 (Sx.of [[(b153, .cells #[.int .i64 0, .int .i64 0, .bool false] 44 (0, 0))], s138] L133 HS155)), ?_⟩
          refine takeGE 13 (by kernel_rfl) rfl (by kernel_rfl) (does_store (n := 3) (vs := [.int .i64 ((rd c1.At (rd vt45 (w64 (least5 - 1)))).Lo), .int .i64 1099511627776, .bool false]) (cs' := #[.int .i64 ((rd c1.At (rd vt45 (w64 (least5 - 1)))).Lo), .int .i64 1099511627776, .bool false]) rfl (by kernel_rfl) (by kernel_rfl : _ = Value.pointer (some ⟨b153, 0, none⟩)) (by kernel_rfl : _ = Value.agg #[.int .i64 ((rd c1.At (rd vt45 (w64 (least5 - 1)))).Lo), .int .i64 1099511627776, .bool false]) rfl rfl (by intro u_ hu_; simp only [List.mem_cons, List.not_mem_nil, or_false] at hu_; rcases hu_ with rfl | rfl | rfl <;> rfl) HS155 (Nat.le_of_ble_eq_true rfl) (by kernel_rfl) ?_)
          intro W157 HS158
          refine ⟨(Sg.g0 (Sx.of [[(b153, .cells #[.int .i64 ((rd c1.At (rd vt45 (w64 (least5 - 1)))).Lo), .int .i64 1099511627776, .bool false] 44 (0, 0))], s138] L133 HS158)), ?_⟩
          refine hR128 _ _ ?_
          exact J129 f132 A136 c137 s138 b144 of145 b150 of151 b153 W157 _ L133 HO139 HS158 (by kernel_rfl)
        · refine does_alloc (z := Value.agg #[.int .i64 0, .int .i64 0, .bool false]) (cs := #[.int .i64 0, .int .i64 0, .bool false]) rfl (by kernel_rfl) rfl HS135 ?_
          intro b159 W160 HS161
          refine ⟨(Sg.g0 (Sx.of [[(b159, .cells #[.int .i64 0, .int .i64 0, .bool false] 44 (0, 0))], s138] L133 HS161)), ?_⟩
          refine takeGE 10 (by kernel_rfl) rfl (by kernel_rfl) (does_run (run_load rfl Try.underlying42 rfl (by kernel_rfl : _ = Value.pointer (some ⟨b150, of151 + ((rd vt45 (w64 (least5 - 1))) : Int).toNat * 3, none⟩)) ((hc149 (FM.le.refl _) HS161) 0 (by decide))) ?_)
          refine ⟨(Sg.g0 (Sx.of [[(b159, .cells #[.int .i64 0, .int .i64 0, .bool false] 44 (0, 0))], s138] L133 HS161)), ?_⟩
          refine takeG [11] (n := 2) (fuel := 1) (l' := #[true, true, true, true, true, true, true, true, true, true, true, true, true, false]) (a' := ⟨#[.agg #[iV c1.W, iV c1.H, .slice A2 c1.At.length c3], iV least5, .pointer (some ⟨b8, 0, none⟩), uV, .pointer (some ⟨b12, 0, none⟩), iV 0, .slice A25 vt18.length c26, iV vt19, .pointer (some ⟨b159, 0, none⟩), uV, uV, .tuple #[.slice A25 vt18.length c26, iV vt19], .agg #[iV c1.W, iV c1.H, .slice A2 c1.At.length c3], iV least5, .tuple #[.slice A25 vt18.length c26, iV vt19], .slice A25 vt18.length c26, iV vt19, iV vt19, .bool false, uV, uV, .pointer (some ⟨b8, 2, none⟩), .slice A2 c1.At.length c3, .agg #[iV c1.W, iV c1.H, .slice A2 c1.At.length c3], .slice A136 vt45.length c137, iV least5, iV (w64 (least5 - 1)), .pointer (some ⟨b144, of145 + (w64 (least5 - 1) : Int).toNat * 1, none⟩), iV (rd vt45 (w64 (least5 - 1))), .pointer (some ⟨b150, of151 + ((rd vt45 (w64 (least5 - 1))) : Int).toNat * 3, none⟩), .pointer (some ⟨b150, of151 + ((rd vt45 (w64 (least5 - 1))) : Int).toNat * 3, none⟩), iV ((rd c1.At (rd vt45 (w64 (least5 - 1)))).Lo), .agg #[iV ((rd c1.At (rd vt45 (w64 (least5 - 1)))).Lo), iV 1099511627776, .bool false], uV, uV, uV, uV, uV, uV, uV, uV, uV, uV, uV, uV, uV, uV, uV, uV, uV, uV, uV, uV, uV, uV, uV, uV], []⟩) rfl (by kernel_rfl) (by kernel_rfl) (by kernel_rfl) hnp (Sg.g0 (Sx.of [[(b159, .cells #[.int .i64 0, .int .i64 0, .bool false] 44 (0, 0))], s138] L133 HS161)) ?_
          refine takeGE 13 (by kernel_rfl) rfl (by kernel_rfl) (does_store (n := 3) (vs := [.int .i64 ((rd c1.At (rd vt45 (w64 (least5 - 1)))).Lo), .int .i64 1099511627776, .bool false]) (cs' := #[.int .i64 ((rd c1.At (rd vt45 (w64 (least5 - 1)))).Lo), .int .i64 1099511627776, .bool false]) rfl (by kernel_rfl) (by kernel_rfl : _ = Value.pointer (some ⟨b159, 0, none⟩)) (by kernel_rfl : _ = Value.agg #[.int .i64 ((rd c1.At (rd vt45 (w64 (least5 - 1)))).Lo), .int .i64 1099511627776, .bool false]) rfl rfl (by intro u_ hu_; simp only [List.mem_cons, List.not_mem_nil, or_false] at hu_; rcases hu_ with rfl | rfl | rfl <;> rfl) HS161 (Nat.le_of_ble_eq_true rfl) (by kernel_rfl) ?_)
          intro W163 HS164
          refine ⟨(Sg.g0 (Sx.of [[(b159, .cells #[.int .i64 ((rd c1.At (rd vt45 (w64 (least5 - 1)))).Lo), .int .i64 1099511627776, .bool false] 44 (0, 0))], s138] L133 HS164)), ?_⟩
          refine hR128 _ _ ?_
          exact J129 f132 A136 c137 s138 b144 of145 b150 of151 b159 W163 _ L133 HO139 HS164 (by kernel_rfl)
      · refine does_alloc (z := Value.agg #[.int .i64 0, .int .i64 0, .bool false]) (cs := #[.int .i64 0, .int .i64 0, .bool false]) rfl (by kernel_rfl) rfl HS135 ?_
        intro b165 W166 HS167
        refine ⟨(Sg.g0 (Sx.of [[(b165, .cells #[.int .i64 0, .int .i64 0, .bool false] 44 (0, 0))], s138] L133 HS167)), ?_⟩
        refine takeGE 7 (by kernel_rfl) rfl (by kernel_rfl) (does_run (run_load rfl Try.underlying3 rfl (by kernel_rfl : _ = Value.pointer (some ⟨b144, of145 + (w64 (least5 - 1) : Int).toNat * 1, none⟩)) ((hc143 HS167.u1) 0 (by decide))) ?_)
        refine ⟨(Sg.g0 (Sx.of [[(b165, .cells #[.int .i64 0, .int .i64 0, .bool false] 44 (0, 0))], s138] L133 HS167)), ?_⟩
        obtain ⟨b172, of173, cs169, hA174, hr170, hc171⟩ := (HR4.mono (L22.trans L133)).at (i := (rd vt45 (w64 (least5 - 1)))) c82 c98
        obtain rfl := hr170
        refine takeGQ 8 [] rfl (by kernel_rfl) (by kernel_rfl) (by kernel_rfl) (by kernel_rfl) (by kernel_rfl) (by kernel_rfl) hnp (Sg.g0 (Sx.of [[(b165, .cells #[.int .i64 0, .int .i64 0, .bool false] 44 (0, 0))], s138] L133 HS167)) (fun w_ hw_ => by obtain ⟨g_, hl_, hS_⟩ := hw_.st; exact run_indexE hA174 (sz := 3) rfl Try.underlying32 (by kernel_rfl) (by kernel_rfl : _ = Value.slice A2 c1.At.length c3) (by kernel_rfl : _ = Value.int .i64 (rd vt45 (w64 (least5 - 1)))) c82 c98 w_) ?_
        refine takeG [9] (n := 4) (fuel := 3) (l' := #[true, true, true, true, true, true, true, true, true, true, false, false, true, false]) (a' := ⟨#[.agg #[iV c1.W, iV c1.H, .slice A2 c1.At.length c3], iV least5, .pointer (some ⟨b8, 0, none⟩), uV, .pointer (some ⟨b12, 0, none⟩), iV 0, .slice A25 vt18.length c26, iV vt19, .pointer (some ⟨b165, 0, none⟩), uV, uV, .tuple #[.slice A25 vt18.length c26, iV vt19], .agg #[iV c1.W, iV c1.H, .slice A2 c1.At.length c3], iV least5, .tuple #[.slice A25 vt18.length c26, iV vt19], .slice A25 vt18.length c26, iV vt19, iV vt19, .bool false, uV, uV, .pointer (some ⟨b8, 2, none⟩), .slice A2 c1.At.length c3, .agg #[iV c1.W, iV c1.H, .slice A2 c1.At.length c3], .slice A136 vt45.length c137, iV least5, iV (w64 (least5 - 1)), .pointer (some ⟨b144, of145 + (w64 (least5 - 1) : Int).toNat * 1, none⟩), iV (rd vt45 (w64 (least5 - 1))), .pointer (some ⟨b172, of173 + ((rd vt45 (w64 (least5 - 1))) : Int).toNat * 3, none⟩), .pointer (some ⟨b172, of173 + ((rd vt45 (w64 (least5 - 1))) : Int).toNat * 3, none⟩), uV, uV, uV, uV, uV, uV, uV, uV, uV, uV, uV, uV, uV, uV, uV, uV, uV, uV, uV, uV, uV, uV, uV, uV, uV, uV], []⟩) rfl (by kernel_rfl) (by kernel_rfl) (by kernel_rfl) hnp (Sg.g0 (Sx.of [[(b165, .cells #[.int .i64 0, .int .i64 0, .bool false] 44 (0, 0))], s138] L133 HS167)) ?_
        refine takeGE 10 (by kernel_rfl) rfl (by kernel_rfl) (does_run (run_load rfl Try.underlying42 rfl (by kernel_rfl : _ = Value.pointer (some ⟨b172, of173 + ((rd vt45 (w64 (least5 - 1))) : Int).toNat * 3, none⟩)) ((hc171 (FM.le.refl _) HS167) 0 (by decide))) ?_)
        refine ⟨(Sg.g0 (Sx.of [[(b165, .cells #[.int .i64 0, .int .i64 0, .bool false] 44 (0, 0))], s138] L133 HS167)), ?_⟩
        refine takeG [11] (n := 2) (fuel := 1) (l' := #[true, true, true, true, true, true, true, true, true, true, true, true, true, false]) (a' := ⟨#[.agg #[iV c1.W, iV c1.H, .slice A2 c1.At.length c3], iV least5, .pointer (some ⟨b8, 0, none⟩), uV, .pointer (some ⟨b12, 0, none⟩), iV 0, .slice A25 vt18.length c26, iV vt19, .pointer (some ⟨b165, 0, none⟩), uV, uV, .tuple #[.slice A25 vt18.length c26, iV vt19], .agg #[iV c1.W, iV c1.H, .slice A2 c1.At.length c3], iV least5, .tuple #[.slice A25 vt18.length c26, iV vt19], .slice A25 vt18.length c26, iV vt19, iV vt19, .bool false, uV, uV, .pointer (some ⟨b8, 2, none⟩), .slice A2 c1.At.length c3, .agg #[iV c1.W, iV c1.H, .slice A2 c1.At.length c3], .slice A136 vt45.length c137, iV least5, iV (w64 (least5 - 1)), .pointer (some ⟨b144, of145 + (w64 (least5 - 1) : Int).toNat * 1, none⟩), iV (rd vt45 (w64 (least5 - 1))), .pointer (some ⟨b172, of173 + ((rd vt45 (w64 (least5 - 1))) : Int).toNat * 3, none⟩), .pointer (some ⟨b172, of173 + ((rd vt45 (w64 (least5 - 1))) : Int).toNat * 3, none⟩), iV ((rd c1.At (rd vt45 (w64 (least5 - 1)))).Lo), .agg #[iV ((rd c1.At (rd vt45 (w64 (least5 - 1)))).Lo), iV 1099511627776, .bool false], uV, uV, uV, uV, uV, uV, uV, uV, uV, uV, uV, uV, uV, uV, uV, uV, uV, uV, uV, uV, uV, uV, uV, uV], []⟩) rfl (by kernel_rfl) (by kernel_rfl) (by kernel_rfl) hnp (Sg.g0 (Sx.of [[(b165, .cells #[.int .i64 0, .int .i64 0, .bool false] 44 (0, 0))], s138] L133 HS167)) ?_
        refine takeGE 13 (by kernel_rfl) rfl (by kernel_rfl) (does_store (n := 3) (vs := [.int .i64 ((rd c1.At (rd vt45 (w64 (least5 - 1)))).Lo), .int .i64 1099511627776, .bool false]) (cs' := #[.int .i64 ((rd c1.At (rd vt45 (w64 (least5 - 1)))).Lo), .int .i64 1099511627776, .bool false]) rfl (by kernel_rfl) (by kernel_rfl : _ = Value.pointer (some ⟨b165, 0, none⟩)) (by kernel_rfl : _ = Value.agg #[.int .i64 ((rd c1.At (rd vt45 (w64 (least5 - 1)))).Lo), .int .i64 1099511627776, .bool false]) rfl rfl (by intro u_ hu_; simp only [List.mem_cons, List.not_mem_nil, or_false] at hu_; rcases hu_ with rfl | rfl | rfl <;> rfl) HS167 (Nat.le_of_ble_eq_true rfl) (by kernel_rfl) ?_)
        intro W175 HS176
        refine ⟨(Sg.g0 (Sx.of [[(b165, .cells #[.int .i64 ((rd c1.At (rd vt45 (w64 (least5 - 1)))).Lo), .int .i64 1099511627776, .bool false] 44 (0, 0))], s138] L133 HS176)), ?_⟩
        refine hR128 _ _ ?_
        exact J129 f132 A136 c137 s138 b144 of145 b172 of173 b165 W175 _ L133 HO139 HS176 (by kernel_rfl)
    · refine does_alloc (z := Value.agg #[.int .i64 0, .int .i64 0, .bool false]) (cs := #[.int .i64 0, .int .i64 0, .bool false]) rfl (by kernel_rfl) rfl HS44 ?_
      intro b177 W178 HS179
      refine ⟨(Sg.g0 (Sx.of [[(b177, .cells #[.int .i64 0, .int .i64 0, .bool false] 44 (0, 0))]] (FM.le.refl _) HS179)), ?_⟩
      refine takeGE 3 (by kernel_rfl) rfl (by kernel_rfl) (does_call (f := 62) (args := #[.agg #[.int .i64 c1.W, .int .i64 c1.H, .slice A2 c1.At.length c3]]) (by kernel_rfl) (level_known.calls k A2 c3 c1 HS179 (HR4.mono L22) vt45 hc46) ?_)
      rintro _ W183 ⟨f181, A185, c186, s187, rfl, L182, HS184, HO188⟩
      refine ⟨_, rfl, ?_⟩
      refine ⟨(Sg.g0 (Sx.of [s187, [(b177, .cells #[.int .i64 0, .int .i64 0, .bool false] 44 (0, 0))]] L182 HS184)), ?_⟩
      obtain ⟨b193, of194, cs190, hA195, hr191, hc192⟩ := HO188.at (i := w64 (least5 - 1)) c56 c66
      obtain rfl := hr191
      refine takeGQ 6 [] rfl (by kernel_rfl) (by kernel_rfl) (by kernel_rfl) (by kernel_rfl) (by kernel_rfl) (by kernel_rfl) hnp (Sg.g0 (Sx.of [s187, [(b177, .cells #[.int .i64 0, .int .i64 0, .bool false] 44 (0, 0))]] L182 HS184)) (fun w_ hw_ => by obtain ⟨g_, hl_, hS_⟩ := hw_.st; exact run_indexE hA195 (sz := 1) rfl Try.underlying22 (by kernel_rfl) (by kernel_rfl : _ = Value.slice A185 vt45.length c186) (by kernel_rfl : _ = Value.int .i64 (w64 (least5 - 1))) c56 c66 w_) ?_
      refine takeGE 7 (by kernel_rfl) rfl (by kernel_rfl) (does_run (run_load rfl Try.underlying3 rfl (by kernel_rfl : _ = Value.pointer (some ⟨b193, of194 + (w64 (least5 - 1) : Int).toNat * 1, none⟩)) ((hc192 HS184) 0 (by decide))) ?_)
      refine ⟨(Sg.g0 (Sx.of [s187, [(b177, .cells #[.int .i64 0, .int .i64 0, .bool false] 44 (0, 0))]] L182 HS184)), ?_⟩
      obtain ⟨b199, of200, cs196, hA201, hr197, hc198⟩ := (HR4.mono (L22.trans L182)).at (i := (rd vt45 (w64 (least5 - 1)))) c82 c98
      obtain rfl := hr197
      refine takeGQ 8 [] rfl (by kernel_rfl) (by kernel_rfl) (by kernel_rfl) (by kernel_rfl) (by kernel_rfl) (by kernel_rfl) hnp (Sg.g0 (Sx.of [s187, [(b177, .cells #[.int .i64 0, .int .i64 0, .bool false] 44 (0, 0))]] L182 HS184)) (fun w_ hw_ => by obtain ⟨g_, hl_, hS_⟩ := hw_.st; exact run_indexE hA201 (sz := 3) rfl Try.underlying32 (by kernel_rfl) (by kernel_rfl : _ = Value.slice A2 c1.At.length c3) (by kernel_rfl : _ = Value.int .i64 (rd vt45 (w64 (least5 - 1)))) c82 c98 w_) ?_
      refine takeG [9] (n := 4) (fuel := 3) (l' := #[true, true, true, true, true, true, true, true, true, true, false, false, true, false]) (a' := ⟨#[.agg #[iV c1.W, iV c1.H, .slice A2 c1.At.length c3], iV least5, .pointer (some ⟨b8, 0, none⟩), uV, .pointer (some ⟨b12, 0, none⟩), iV 0, .slice A25 vt18.length c26, iV vt19, .pointer (some ⟨b177, 0, none⟩), uV, uV, .tuple #[.slice A25 vt18.length c26, iV vt19], .agg #[iV c1.W, iV c1.H, .slice A2 c1.At.length c3], iV least5, .tuple #[.slice A25 vt18.length c26, iV vt19], .slice A25 vt18.length c26, iV vt19, iV vt19, .bool false, uV, uV, .pointer (some ⟨b8, 2, none⟩), .slice A2 c1.At.length c3, .agg #[iV c1.W, iV c1.H, .slice A2 c1.At.length c3], .slice A185 vt45.length c186, iV least5, iV (w64 (least5 - 1)), .pointer (some ⟨b193, of194 + (w64 (least5 - 1) : Int).toNat * 1, none⟩), iV (rd vt45 (w64 (least5 - 1))), .pointer (some ⟨b199, of200 + ((rd vt45 (w64 (least5 - 1))) : Int).toNat * 3, none⟩), .pointer (some ⟨b199, of200 + ((rd vt45 (w64 (least5 - 1))) : Int).toNat * 3, none⟩), uV, uV, uV, uV, uV, uV, uV, uV, uV, uV, uV, uV, uV, uV, uV, uV, uV, uV, uV, uV, uV, uV, uV, uV, uV, uV], []⟩) rfl (by kernel_rfl) (by kernel_rfl) (by kernel_rfl) hnp (Sg.g0 (Sx.of [s187, [(b177, .cells #[.int .i64 0, .int .i64 0, .bool false] 44 (0, 0))]] L182 HS184)) ?_
      refine takeGE 10 (by kernel_rfl) rfl (by kernel_rfl) (does_run (run_load rfl Try.underlying42 rfl (by kernel_rfl : _ = Value.pointer (some ⟨b199, of200 + ((rd vt45 (w64 (least5 - 1))) : Int).toNat * 3, none⟩)) ((hc198 (FM.le.refl _) HS184) 0 (by decide))) ?_)
      refine ⟨(Sg.g0 (Sx.of [s187, [(b177, .cells #[.int .i64 0, .int .i64 0, .bool false] 44 (0, 0))]] L182 HS184)), ?_⟩
      refine takeG [11] (n := 2) (fuel := 1) (l' := #[true, true, true, true, true, true, true, true, true, true, true, true, true, false]) (a' := ⟨#[.agg #[iV c1.W, iV c1.H, .slice A2 c1.At.length c3], iV least5, .pointer (some ⟨b8, 0, none⟩), uV, .pointer (some ⟨b12, 0, none⟩), iV 0, .slice A25 vt18.length c26, iV vt19, .pointer (some ⟨b177, 0, none⟩), uV, uV, .tuple #[.slice A25 vt18.length c26, iV vt19], .agg #[iV c1.W, iV c1.H, .slice A2 c1.At.length c3], iV least5, .tuple #[.slice A25 vt18.length c26, iV vt19], .slice A25 vt18.length c26, iV vt19, iV vt19, .bool false, uV, uV, .pointer (some ⟨b8, 2, none⟩), .slice A2 c1.At.length c3, .agg #[iV c1.W, iV c1.H, .slice A2 c1.At.length c3], .slice A185 vt45.length c186, iV least5, iV (w64 (least5 - 1)), .pointer (some ⟨b193, of194 + (w64 (least5 - 1) : Int).toNat * 1, none⟩), iV (rd vt45 (w64 (least5 - 1))), .pointer (some ⟨b199, of200 + ((rd vt45 (w64 (least5 - 1))) : Int).toNat * 3, none⟩), .pointer (some ⟨b199, of200 + ((rd vt45 (w64 (least5 - 1))) : Int).toNat * 3, none⟩), iV ((rd c1.At (rd vt45 (w64 (least5 - 1)))).Lo), .agg #[iV ((rd c1.At (rd vt45 (w64 (least5 - 1)))).Lo), iV 1099511627776, .bool false], uV, uV, uV, uV, uV, uV, uV, uV, uV, uV, uV, uV, uV, uV, uV, uV, uV, uV, uV, uV, uV, uV, uV, uV], []⟩) rfl (by kernel_rfl) (by kernel_rfl) (by kernel_rfl) hnp (Sg.g0 (Sx.of [s187, [(b177, .cells #[.int .i64 0, .int .i64 0, .bool false] 44 (0, 0))]] L182 HS184)) ?_
      have HS202 := HS184.u1
      refine takeGE 13 (by kernel_rfl) rfl (by kernel_rfl) (does_store (n := 3) (vs := [.int .i64 ((rd c1.At (rd vt45 (w64 (least5 - 1)))).Lo), .int .i64 1099511627776, .bool false]) (cs' := #[.int .i64 ((rd c1.At (rd vt45 (w64 (least5 - 1)))).Lo), .int .i64 1099511627776, .bool false]) rfl (by kernel_rfl) (by kernel_rfl : _ = Value.pointer (some ⟨b177, 0, none⟩)) (by kernel_rfl : _ = Value.agg #[.int .i64 ((rd c1.At (rd vt45 (w64 (least5 - 1)))).Lo), .int .i64 1099511627776, .bool false]) rfl rfl (by intro u_ hu_; simp only [List.mem_cons, List.not_mem_nil, or_false] at hu_; rcases hu_ with rfl | rfl | rfl <;> rfl) HS202 (Nat.le_of_ble_eq_true rfl) (by kernel_rfl) ?_)
      intro W203 HS204
      refine ⟨(Sg.g0 (Sx.of [[(b177, .cells #[.int .i64 ((rd c1.At (rd vt45 (w64 (least5 - 1)))).Lo), .int .i64 1099511627776, .bool false] 44 (0, 0))], s187] L182 HS204)), ?_⟩
      refine hR128 _ _ ?_
      exact J129 f181 A185 c186 s187 b193 of194 b199 of200 b177 W203 _ L182 HO188 HS204 (by kernel_rfl)

set_option maxRecDepth 100000 in
set_option maxHeartbeats 4000000 in
theorem spykeep3_levelled.calls (k : Nat)   {t w : World} {f : FM} {H : List Seg} (HS : St t w f (H)) (r1 : Bool) (h : spykeep3_levelled k = some r1) :
    Calls Try.prog 33 #[] w (fun e w' => ∃ (g : FM), e = .returned (Value.bool r1) ∧ FM.le f g ∧ St t w' g (H)) := by
  unfold spykeep3_levelled at h
  refine enter Try.func33 rfl (tm := #[uV, uV, uV, uV, uV, uV, uV, uV, uV, uV, uV, uV, uV, uV, uV, uV, uV, uV, uV, uV]) (by kernel_rfl) ?_
  intro B hret hnor hnp
  refine wp_seq_k (fun K1 hK2 => ?_)
  refine wp_region_lit ?_
  refine seqS1 (a' := ⟨#[.bool false, uV, uV, uV, uV, uV, uV, uV, uV, uV, uV, uV, uV, uV, uV, uV, uV, uV, uV, uV], []⟩) (by kernel_rfl) ?_
  refine wpList_nil ?_
  refine hK2 _ _ ?_
  refine wp_seq_k (fun K3 hK4 => ?_)
  refine wp_region_lit ?_
  refine seqL2 (by kernel_rfl) ?_
  refine seqK rfl (does_lit (e := ty_Bound) (E := 44) (vs := #[(0, Value.agg #[.int .i64 3, .int .i64 9, .bool false]), (1, Value.agg #[.int .i64 4, .int .i64 6, .bool false])]) (cs := #[.int .i64 3, .int .i64 9, .bool false, .int .i64 4, .int .i64 6, .bool false]) (xs := ([(⟨3, 9, false⟩ : S_Bound), (⟨4, 6, false⟩ : S_Bound)] : List S_Bound)) rfl Try.underlying32 (by kernel_rfl) (by kernel_rfl) ⟨[.int .i64 3, .int .i64 9, .bool false], _, rfl, rfl, ⟨[.int .i64 4, .int .i64 6, .bool false], _, rfl, rfl, rfl⟩⟩ rfl HS ?_ (by decide))
  intro b5 W6 s7 HS8 _ HO9
  refine seqL1 (by kernel_rfl) ?_
  refine seqK rfl (does_alloc (z := Value.agg #[.int .i64 0, .int .i64 0, .slice none 0 0]) (cs := #[.int .i64 0, .int .i64 0, .slice none 0 0]) rfl (by kernel_rfl) rfl HS8 ?_)
  intro b11 W12 HS13
  refine seqK rfl (does_store (n := 3) (vs := [.int .i64 2, .int .i64 1, .slice (some ⟨b5, 0, none⟩) ([(⟨3, 9, false⟩ : S_Bound), (⟨4, 6, false⟩ : S_Bound)] : List S_Bound).length 2]) (cs' := #[.int .i64 2, .int .i64 1, .slice (some ⟨b5, 0, none⟩) ([(⟨3, 9, false⟩ : S_Bound), (⟨4, 6, false⟩ : S_Bound)] : List S_Bound).length 2]) rfl (by kernel_rfl) (by kernel_rfl : _ = Value.pointer (some ⟨b11, 0, none⟩)) (by kernel_rfl : _ = Value.agg #[.int .i64 2, .int .i64 1, .slice (some ⟨b5, 0, none⟩) ([(⟨3, 9, false⟩ : S_Bound), (⟨4, 6, false⟩ : S_Bound)] : List S_Bound).length 2]) rfl rfl (by intro u_ hu_; simp only [List.mem_cons, List.not_mem_nil, or_false] at hu_; rcases hu_ with rfl | rfl | rfl <;> rfl) HS13 (Nat.le_of_ble_eq_true rfl) (by kernel_rfl) ?_)
  intro W15 HS16
  refine wpList_nil ?_
  refine hK4 _ _ ?_
  refine wp_seq_k (fun K17 hK18 => ?_)
  refine wp_region_lit ?_
  refine seqK rfl (does_run (run_loadN (n := 3) rfl Try.underlying34 rfl (by kernel_rfl) (by kernel_rfl : _ = Value.pointer (some ⟨b11, 0, none⟩)) (cs := [.int .i64 2, .int .i64 1, .slice (some ⟨b5, 0, none⟩) ([(⟨3, 9, false⟩ : S_Bound), (⟨4, 6, false⟩ : S_Bound)] : List S_Bound).length 2]) rfl (HS16.cells 0 3 _ rfl)) ?_)
  have HS19 := HS16.u1
  obtain ⟨f20, L21, HS22, HR23, th24⟩ := HO9.lend HS19
  have hq_ := bind_some h; clear h; obtain ⟨⟨vt25, vt26⟩, hc27, h⟩ := hq_
  refine seqK rfl (does_call (f := 34) (args := #[.agg #[.int .i64 2, .int .i64 1, .slice (some ⟨b5, 0, none⟩) ([(⟨3, 9, false⟩ : S_Bound), (⟨4, 6, false⟩ : S_Bound)] : List S_Bound).length 2], .int .i64 2]) (by kernel_rfl) (level_Of.calls k (some ⟨b5, 0, none⟩) 2 (⟨2, 1, ([(⟨3, 9, false⟩ : S_Bound), (⟨4, 6, false⟩ : S_Bound)] : List S_Bound)⟩ : S_Cells) 2 HS22 HR23 vt25 vt26 hc27) ?_)
  rintro _ W30 ⟨f28, rfl, L29, HS31⟩
  refine ⟨_, rfl, ?_⟩
  obtain ⟨f32, L33, HS34⟩ := th24 L29 HS31
  refine seqL3 (by kernel_rfl) ?_
  refine seqK rfl (does_alloc (z := Value.agg #[.int .i64 0, .int .i64 0, .bool false]) (cs := #[.int .i64 0, .int .i64 0, .bool false]) rfl (by kernel_rfl) rfl HS34 ?_)
  intro b35 W36 HS37
  refine seqK rfl (does_store (n := 3) (vs := [.int .i64 vt25.Lo, .int .i64 vt25.Hi, .bool vt25.Unknown]) (cs' := #[.int .i64 vt25.Lo, .int .i64 vt25.Hi, .bool vt25.Unknown]) rfl (by kernel_rfl) (by kernel_rfl : _ = Value.pointer (some ⟨b35, 0, none⟩)) (by kernel_rfl : _ = Value.agg #[.int .i64 vt25.Lo, .int .i64 vt25.Hi, .bool vt25.Unknown]) rfl rfl (by intro u_ hu_; simp only [List.mem_cons, List.not_mem_nil, or_false] at hu_; rcases hu_ with rfl | rfl | rfl <;> rfl) HS37 (Nat.le_of_ble_eq_true rfl) (by kernel_rfl) ?_)
  intro W39 HS40
  refine seqS1 (a' := ⟨#[.bool false, .pointer (some ⟨b11, 0, none⟩), .pointer (some ⟨b35, 0, none⟩), iV vt26, .agg #[iV 3, iV 9, .bool false], .agg #[iV 4, iV 6, .bool false], .slice (some ⟨b5, 0, none⟩) ([(⟨3, 9, false⟩ : S_Bound), (⟨4, 6, false⟩ : S_Bound)] : List S_Bound).length 2, .agg #[iV 2, iV 1, .slice (some ⟨b5, 0, none⟩) ([(⟨3, 9, false⟩ : S_Bound), (⟨4, 6, false⟩ : S_Bound)] : List S_Bound).length 2], .tuple #[.agg #[iV vt25.Lo, iV vt25.Hi, .bool vt25.Unknown], iV vt26], .agg #[iV 2, iV 1, .slice (some ⟨b5, 0, none⟩) ([(⟨3, 9, false⟩ : S_Bound), (⟨4, 6, false⟩ : S_Bound)] : List S_Bound).length 2], .tuple #[.agg #[iV vt25.Lo, iV vt25.Hi, .bool vt25.Unknown], iV vt26], .agg #[iV vt25.Lo, iV vt25.Hi, .bool vt25.Unknown], iV vt26, uV, uV, uV, uV, uV, uV, uV], []⟩) (by kernel_rfl) ?_
  refine wpList_nil ?_
  refine hK18 _ _ ?_
  refine wp_seq_k (fun K41 hK42 => ?_)
  refine wp_region_lit ?_
  refine seqS3 (a' := ⟨#[.bool false, .pointer (some ⟨b11, 0, none⟩), .pointer (some ⟨b35, 0, none⟩), iV vt26, .agg #[iV 3, iV 9, .bool false], .agg #[iV 4, iV 6, .bool false], .slice (some ⟨b5, 0, none⟩) ([(⟨3, 9, false⟩ : S_Bound), (⟨4, 6, false⟩ : S_Bound)] : List S_Bound).length 2, .agg #[iV 2, iV 1, .slice (some ⟨b5, 0, none⟩) ([(⟨3, 9, false⟩ : S_Bound), (⟨4, 6, false⟩ : S_Bound)] : List S_Bound).length 2], .tuple #[.agg #[iV vt25.Lo, iV vt25.Hi, .bool vt25.Unknown], iV vt26], .agg #[iV 2, iV 1, .slice (some ⟨b5, 0, none⟩) ([(⟨3, 9, false⟩ : S_Bound), (⟨4, 6, false⟩ : S_Bound)] : List S_Bound).length 2], .tuple #[.agg #[iV vt25.Lo, iV vt25.Hi, .bool vt25.Unknown], iV vt26], .agg #[iV vt25.Lo, iV vt25.Hi, .bool vt25.Unknown], iV vt26, iV vt26, .bool (vt26 == 0), .bool (vt26 == 0), uV, uV, uV, uV], []⟩) (by kernel_rfl) ?_
  have hq_ := ite_some h; clear h; rcases hq_ with ⟨c43, h⟩ | ⟨c43, h⟩
  · have c43 : vt26 = 0 := c43
    refine seqRwI 14 (x := (vt26 == 0)) (v := true) (by kernel_rfl) (beq_iff_eq.mpr c43) ?_
    refine seqRwI 15 (x := (vt26 == 0)) (v := true) (by kernel_rfl) (beq_iff_eq.mpr c43) ?_
    refine seqG (by kernel_rfl) (does_run (run_loadN (n := 3) rfl Try.underlying44 rfl (by kernel_rfl) (by kernel_rfl : _ = Value.pointer (some ⟨b35, 0, none⟩)) (cs := [.int .i64 vt25.Lo, .int .i64 vt25.Hi, .bool vt25.Unknown]) rfl (HS40.cells 0 3 _ rfl)) ?_)
    refine seqL1 (by kernel_rfl) ?_
    refine seqG (by kernel_rfl) (does_run (run_eqS (b := ((vt25.Lo == 4) && ((vt25.Hi == 6) && ((vt25.Unknown == false) && true)))) rfl (by kernel_rfl : _ = Value.agg #[.int .i64 vt25.Lo, .int .i64 vt25.Hi, .bool vt25.Unknown]) (by kernel_rfl : _ = Value.agg #[.int .i64 4, .int .i64 6, .bool false]) (by kernel_rfl) (by kernel_rfl) W39) ?_)
    refine seqS2 (a' := ⟨#[.bool ((vt25.Lo == 4) && ((vt25.Hi == 6) && ((vt25.Unknown == false) && true))), .pointer (some ⟨b11, 0, none⟩), .pointer (some ⟨b35, 0, none⟩), iV vt26, .agg #[iV 3, iV 9, .bool false], .agg #[iV 4, iV 6, .bool false], .slice (some ⟨b5, 0, none⟩) ([(⟨3, 9, false⟩ : S_Bound), (⟨4, 6, false⟩ : S_Bound)] : List S_Bound).length 2, .agg #[iV 2, iV 1, .slice (some ⟨b5, 0, none⟩) ([(⟨3, 9, false⟩ : S_Bound), (⟨4, 6, false⟩ : S_Bound)] : List S_Bound).length 2], .tuple #[.agg #[iV vt25.Lo, iV vt25.Hi, .bool vt25.Unknown], iV vt26], .agg #[iV 2, iV 1, .slice (some ⟨b5, 0, none⟩) ([(⟨3, 9, false⟩ : S_Bound), (⟨4, 6, false⟩ : S_Bound)] : List S_Bound).length 2], .tuple #[.agg #[iV vt25.Lo, iV vt25.Hi, .bool vt25.Unknown], iV vt26], .agg #[iV vt25.Lo, iV vt25.Hi, .bool vt25.Unknown], iV vt26, iV vt26, .bool true, .bool true, .agg #[iV vt25.Lo, iV vt25.Hi, .bool vt25.Unknown], .agg #[iV 4, iV 6, .bool false], .bool ((vt25.Lo == 4) && ((vt25.Hi == 6) && ((vt25.Unknown == false) && true))), .bool ((vt25.Lo == 4) && ((vt25.Hi == 6) && ((vt25.Unknown == false) && true)))], []⟩) (by kernel_rfl) ?_
    refine wpList_nil ?_
    refine hK42 _ _ ?_
    refine wp_ret ?_
    refine hret _ _ ?_
    refine ends_still (v := Value.bool ((vt25.Lo == 4) && ((vt25.Hi == 6) && ((vt25.Unknown == false) && true)))) (by kernel_rfl) (by kernel_rfl) ?_
    have HS44 := HS40.drop
    have HS45 := HS44.drop
    have HS46 := HS45.drop
    injection h with h
    subst h
    exact ⟨f32, rfl, L33, HS46⟩
  · have c43 : ¬ (vt26 = 0) := c43
    refine seqRwI 14 (x := (vt26 == 0)) (v := false) (by kernel_rfl) (beq_eq_false_iff_ne.mpr c43) ?_
    refine seqRwI 15 (x := (vt26 == 0)) (v := false) (by kernel_rfl) (beq_eq_false_iff_ne.mpr c43) ?_
    refine seqS5 (a' := ⟨#[.bool false, .pointer (some ⟨b11, 0, none⟩), .pointer (some ⟨b35, 0, none⟩), iV vt26, .agg #[iV 3, iV 9, .bool false], .agg #[iV 4, iV 6, .bool false], .slice (some ⟨b5, 0, none⟩) ([(⟨3, 9, false⟩ : S_Bound), (⟨4, 6, false⟩ : S_Bound)] : List S_Bound).length 2, .agg #[iV 2, iV 1, .slice (some ⟨b5, 0, none⟩) ([(⟨3, 9, false⟩ : S_Bound), (⟨4, 6, false⟩ : S_Bound)] : List S_Bound).length 2], .tuple #[.agg #[iV vt25.Lo, iV vt25.Hi, .bool vt25.Unknown], iV vt26], .agg #[iV 2, iV 1, .slice (some ⟨b5, 0, none⟩) ([(⟨3, 9, false⟩ : S_Bound), (⟨4, 6, false⟩ : S_Bound)] : List S_Bound).length 2], .tuple #[.agg #[iV vt25.Lo, iV vt25.Hi, .bool vt25.Unknown], iV vt26], .agg #[iV vt25.Lo, iV vt25.Hi, .bool vt25.Unknown], iV vt26, iV vt26, .bool false, .bool false, uV, uV, uV, .bool false], []⟩) (by kernel_rfl) ?_
    refine wpList_nil ?_
    refine hK42 _ _ ?_
    refine wp_ret ?_
    refine hret _ _ ?_
    refine ends_still (v := Value.bool false) (by kernel_rfl) (by kernel_rfl) ?_
    have HS47 := HS40.drop
    have HS48 := HS47.drop
    have HS49 := HS48.drop
    injection h with h
    subst h
    exact ⟨f32, rfl, L33, HS49⟩

set_option maxRecDepth 100000 in
set_option maxHeartbeats 4000000 in
theorem bound_Has_Quanta.calls (k : Nat)  (b1 : S_Bound) (v2 : Int) {t w : World} {f : FM} {H : List Seg} (HS : St t w f (H)) (r1 : Bool) (h : bound_Has_Quanta k b1 v2 = some r1) :
    Calls Try.prog 20 #[.agg #[.int .i64 b1.Lo, .int .i64 b1.Hi, .bool b1.Unknown], .int .i64 v2] w (fun e w' => ∃ (g : FM), e = .returned (Value.bool r1) ∧ FM.le f g ∧ St t w' g (H)) := by
  unfold bound_Has_Quanta at h
  refine enter Try.func20 rfl (tm := #[.agg #[iV b1.Lo, iV b1.Hi, .bool b1.Unknown], iV v2, uV, uV, uV, uV, uV, uV, uV, uV, uV, uV, uV, uV, uV, uV, uV, uV, uV, uV]) (by kernel_rfl) ?_
  intro B hret hnor hnp
  refine wp_seq_k (fun K3 hK4 => ?_)
  refine wp_region_lit ?_
  refine seqK rfl (does_box (cs := #[.int .i64 b1.Lo, .int .i64 b1.Hi, .bool b1.Unknown]) rfl (by kernel_rfl : _ = Value.agg #[.int .i64 b1.Lo, .int .i64 b1.Hi, .bool b1.Unknown]) rfl HS ?_)
  intro b5 W6 HS7
  refine seqS1 (a' := ⟨#[.agg #[iV b1.Lo, iV b1.Hi, .bool b1.Unknown], iV v2, .pointer (some ⟨b5, 0, none⟩), uV, .bool false, uV, uV, uV, uV, uV, uV, uV, uV, uV, uV, uV, uV, uV, uV, uV], []⟩) (by kernel_rfl) ?_
  refine wpList_nil ?_
  refine hK4 _ _ ?_
  refine wp_seq_k (fun K9 hK10 => ?_)
  refine wp_region_lit ?_
  refine seqK rfl (does_run (run_loadN (n := 3) rfl Try.underlying44 rfl (by kernel_rfl) (by kernel_rfl : _ = Value.pointer (some ⟨b5, 0, none⟩)) (cs := [.int .i64 b1.Lo, .int .i64 b1.Hi, .bool b1.Unknown]) rfl (HS7.cells 0 3 _ rfl)) ?_)
  refine seqK rfl (does_run (run_loadN (n := 3) rfl Try.underlying44 rfl (by kernel_rfl) (by kernel_rfl : _ = Value.pointer (some ⟨b5, 0, none⟩)) (cs := [.int .i64 b1.Lo, .int .i64 b1.Hi, .bool b1.Unknown]) rfl (HS7.cells 0 3 _ rfl)) ?_)
  have hq_ := bind_some h; clear h; obtain ⟨vt11, hc12, h⟩ := hq_
  refine seqK rfl (does_call (f := 42) (args := #[.agg #[.int .i64 b1.Lo, .int .i64 b1.Hi, .bool b1.Unknown], .agg #[.int .i64 b1.Lo, .int .i64 b1.Hi, .bool b1.Unknown]]) (by kernel_rfl) (bound_vague_Quanta.calls k b1 b1 HS7 vt11 hc12) ?_)
  rintro _ W15 ⟨f13, rfl, L14, HS16⟩
  refine ⟨_, rfl, ?_⟩
  refine seqS1 (a' := ⟨#[.agg #[iV b1.Lo, iV b1.Hi, .bool b1.Unknown], iV v2, .pointer (some ⟨b5, 0, none⟩), uV, .bool false, .agg #[iV b1.Lo, iV b1.Hi, .bool b1.Unknown], .agg #[iV b1.Lo, iV b1.Hi, .bool b1.Unknown], .bool vt11, .bool vt11, uV, uV, uV, uV, uV, uV, uV, uV, uV, uV, uV], []⟩) (by kernel_rfl) ?_
  have hq_ := ite_some h; clear h; rcases hq_ with ⟨c17, h⟩ | ⟨c17, h⟩
  · have c17 : vt11 = true := c17
    refine seqRwI 7 (x := vt11) (v := true) (by kernel_rfl) c17 ?_
    refine seqRwI 8 (x := vt11) (v := true) (by kernel_rfl) c17 ?_
    refine seqS12 (a' := ⟨#[.agg #[iV b1.Lo, iV b1.Hi, .bool b1.Unknown], iV v2, .pointer (some ⟨b5, 0, none⟩), uV, .bool true, .agg #[iV b1.Lo, iV b1.Hi, .bool b1.Unknown], .agg #[iV b1.Lo, iV b1.Hi, .bool b1.Unknown], .bool true, .bool true, uV, uV, uV, uV, uV, uV, uV, uV, uV, uV, .bool true], []⟩) (by kernel_rfl) ?_
    refine wpList_nil ?_
    refine hK10 _ _ ?_
    refine wp_ret ?_
    refine hret _ _ ?_
    refine ends_still (v := Value.bool true) (by kernel_rfl) (by kernel_rfl) ?_
    have HS19 := HS16.drop
    injection h with h
    subst h
    exact ⟨f13, rfl, L14, HS19⟩
  · have c17 : ¬ (vt11 = true) := c17
    refine seqRwI 7 (x := vt11) (v := false) (by kernel_rfl) (Bool.eq_false_iff.mpr c17) ?_
    refine seqRwI 8 (x := vt11) (v := false) (by kernel_rfl) (Bool.eq_false_iff.mpr c17) ?_
    refine seqL1 (by kernel_rfl) ?_
    refine seqG (by kernel_rfl) (does_run (run_load rfl Try.underlying42 rfl (by kernel_rfl : _ = Value.pointer (some ⟨b5, 0, none⟩)) (HS16.cell 0)) ?_)
    refine seqS3 (a' := ⟨#[.agg #[iV b1.Lo, iV b1.Hi, .bool b1.Unknown], iV v2, .pointer (some ⟨b5, 0, none⟩), uV, .bool false, .agg #[iV b1.Lo, iV b1.Hi, .bool b1.Unknown], .agg #[iV b1.Lo, iV b1.Hi, .bool b1.Unknown], .bool false, .bool false, .pointer (some ⟨b5, 0, none⟩), iV b1.Lo, iV v2, .bool (decide (b1.Lo ≤ v2)), .bool (decide (b1.Lo ≤ v2)), uV, uV, uV, uV, uV, uV], []⟩) (by kernel_rfl) ?_
    have hq_ := ite_some h; clear h; rcases hq_ with ⟨c18, h⟩ | ⟨c18, h⟩
    · have c18 : b1.Lo ≤ v2 := c18
      refine seqRwI 12 (x := (decide (b1.Lo ≤ v2))) (v := true) (by kernel_rfl) (decide_eq_true c18) ?_
      refine seqRwI 13 (x := (decide (b1.Lo ≤ v2))) (v := true) (by kernel_rfl) (decide_eq_true c18) ?_
      refine seqL2 (by kernel_rfl) ?_
      refine seqG (by kernel_rfl) (does_run (run_load rfl Try.underlying42 rfl (by kernel_rfl : _ = Value.pointer (some ⟨b5, 1, none⟩)) (HS16.cell 1)) ?_)
      refine seqS4 (a' := ⟨#[.agg #[iV b1.Lo, iV b1.Hi, .bool b1.Unknown], iV v2, .pointer (some ⟨b5, 0, none⟩), uV, .bool (decide (v2 ≤ b1.Hi)), .agg #[iV b1.Lo, iV b1.Hi, .bool b1.Unknown], .agg #[iV b1.Lo, iV b1.Hi, .bool b1.Unknown], .bool false, .bool false, .pointer (some ⟨b5, 0, none⟩), iV b1.Lo, iV v2, .bool true, .bool true, iV v2, .pointer (some ⟨b5, 1, none⟩), iV b1.Hi, .bool (decide (v2 ≤ b1.Hi)), .bool (decide (v2 ≤ b1.Hi)), .bool (decide (v2 ≤ b1.Hi))], []⟩) (by kernel_rfl) ?_
      refine wpList_nil ?_
      refine hK10 _ _ ?_
      refine wp_ret ?_
      refine hret _ _ ?_
      refine ends_still (v := Value.bool (decide (v2 ≤ b1.Hi))) (by kernel_rfl) (by kernel_rfl) ?_
      have HS20 := HS16.drop
      injection h with h
      subst h
      exact ⟨f13, rfl, L14, HS20⟩
    · have c18 : ¬ (b1.Lo ≤ v2) := c18
      refine seqRwI 12 (x := (decide (b1.Lo ≤ v2))) (v := false) (by kernel_rfl) (decide_eq_false c18) ?_
      refine seqRwI 13 (x := (decide (b1.Lo ≤ v2))) (v := false) (by kernel_rfl) (decide_eq_false c18) ?_
      refine seqS7 (a' := ⟨#[.agg #[iV b1.Lo, iV b1.Hi, .bool b1.Unknown], iV v2, .pointer (some ⟨b5, 0, none⟩), uV, .bool false, .agg #[iV b1.Lo, iV b1.Hi, .bool b1.Unknown], .agg #[iV b1.Lo, iV b1.Hi, .bool b1.Unknown], .bool false, .bool false, .pointer (some ⟨b5, 0, none⟩), iV b1.Lo, iV v2, .bool false, .bool false, uV, uV, uV, uV, .bool false, .bool false], []⟩) (by kernel_rfl) ?_
      refine wpList_nil ?_
      refine hK10 _ _ ?_
      refine wp_ret ?_
      refine hret _ _ ?_
      refine ends_still (v := Value.bool false) (by kernel_rfl) (by kernel_rfl) ?_
      have HS21 := HS16.drop
      injection h with h
      subst h
      exact ⟨f13, rfl, L14, HS21⟩

end Go.Sp.T9
