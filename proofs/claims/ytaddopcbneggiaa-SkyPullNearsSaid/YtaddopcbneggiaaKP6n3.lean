import Derived.Test.YtaddopcbneggiaaProg
import Derived.Test.YtaddopcbneggiaaSpThree
import Derived.Test.YtaddopcbneggiaaFP6
import Derived.Test.YtaddopcbneggiaaKP6n0
import Derived.Test.YtaddopcbneggiaaKP6n1
import Derived.Test.YtaddopcbneggiaaKP6n2
namespace Go.Sp.P6
open Go Go.Sp Go.Proofs
set_option linter.unusedVariables false
attribute [local irreducible] wpList AnyL Code.wp Calls Does
set_option maxRecDepth 100000 in
set_option maxHeartbeats 4000000 in
theorem spykeep3_times.calls (k : Nat) (A2 : Option Addr) (c3 : Nat) (A6 : Option Addr) (c7 : Nat) (a1 : S_Int) (b5 : S_Int) {t w : World} {f : FM} {H : List Seg} (HS : St t w f (H)) (HR4 : SlR (tInt .u32) f A2 c3 a1.mag) (HR8 : SlR (tInt .u32) f A6 c7 b5.mag) (r1 : S_Int) (h : spykeep3_times k a1 b5 = some r1) :
    Calls Try.prog 20 #[.agg #[.bool a1.neg, .slice A2 a1.mag.length c3], .agg #[.bool b5.neg, .slice A6 b5.mag.length c7]] w (fun e w' => ∃ (g : FM) (A50 : Option Addr) (c51 : Nat), e = .returned (Value.agg #[.bool r1.neg, .slice A50 r1.mag.length c51]) ∧ FM.le f g ∧ St t w' g (H) ∧ SlR (tInt .u32) g A50 c51 r1.mag) := by
  unfold spykeep3_times at h
  refine enter Try.func20 rfl (tm := #[.agg #[.bool a1.neg, .slice A2 a1.mag.length c3], .agg #[.bool b5.neg, .slice A6 b5.mag.length c7], undef, undef, undef, undef, undef, undef, undef, undef, undef, undef, undef, undef]) (by kernel_rfl) ?_
  intro B hret hnor hnp
  refine wp_seq_k (fun K9 hK10 => ?_)
  refine wp_region_lit ?_
  refine seqK rfl (does_box (cs := #[.bool a1.neg, .slice A2 a1.mag.length c3]) rfl (by kernel_rfl : _ = Value.agg #[.bool a1.neg, .slice A2 a1.mag.length c3]) rfl HS ?_)
  intro b11 W12 HS13
  refine seqK rfl (does_box (cs := #[.bool b5.neg, .slice A6 b5.mag.length c7]) rfl (by kernel_rfl : _ = Value.agg #[.bool b5.neg, .slice A6 b5.mag.length c7]) rfl HS13 ?_)
  intro b15 W16 HS17
  refine seqK rfl (does_alloc (z := Value.agg #[.bool false, .slice none 0 0]) (cs := #[.bool false, .slice none 0 0]) rfl (by kernel_rfl) rfl HS17 ?_)
  intro b19 W20 HS21
  refine wpList_nil ?_
  refine hK10 _ _ ?_
  refine wp_seq_k (fun K23 hK24 => ?_)
  refine wp_region_lit ?_
  refine seqK rfl (does_run (run_loadN (n := 2) rfl Try.underlying53 rfl (by kernel_rfl) (by kernel_rfl : _ = Value.pointer (some ⟨b11, 0, none⟩)) (cs := [.bool a1.neg, .slice A2 a1.mag.length c3]) rfl (HS21.u2.cells 0 2 _ rfl)) ?_)
  refine seqK rfl (does_run (run_loadN (n := 2) rfl Try.underlying53 rfl (by kernel_rfl) (by kernel_rfl : _ = Value.pointer (some ⟨b15, 0, none⟩)) (cs := [.bool b5.neg, .slice A6 b5.mag.length c7]) rfl (HS21.u1.cells 0 2 _ rfl)) ?_)
  have hq_ := bind_some h; clear h; obtain ⟨⟨vt25, vt26⟩, hc27, h⟩ := hq_
  refine seqK rfl (does_call (f := 37) (args := #[.agg #[.bool a1.neg, .slice A2 a1.mag.length c3], .agg #[.bool b5.neg, .slice A6 b5.mag.length c7]]) (by kernel_rfl) (big_Mul.calls k A2 c3 A6 c7 a1 b5 HS21 HR4 HR8 vt25 vt26 hc27) ?_)
  rintro _ W30 ⟨f28, A32, c33, rfl, L29, HS31, HR34⟩
  refine ⟨_, rfl, ?_⟩
  refine seqL3 (by kernel_rfl) ?_
  refine seqK rfl (does_alloc (z := Value.agg #[.bool false, .slice none 0 0]) (cs := #[.bool false, .slice none 0 0]) rfl (by kernel_rfl) rfl HS31 ?_)
  intro b35 W36 HS37
  refine seqK rfl (does_store (n := 2) (vs := [.bool vt25.neg, .slice A32 vt25.mag.length c33]) (cs' := #[.bool vt25.neg, .slice A32 vt25.mag.length c33]) rfl (by kernel_rfl) (by kernel_rfl : _ = Value.pointer (some ⟨b35, 0, none⟩)) (by kernel_rfl : _ = Value.agg #[.bool vt25.neg, .slice A32 vt25.mag.length c33]) rfl rfl (by intro u_ hu_; simp only [List.mem_cons, List.not_mem_nil, or_false] at hu_; rcases hu_ with rfl | rfl <;> rfl) HS37 (Nat.le_of_ble_eq_true rfl) (by kernel_rfl) ?_)
  intro W39 HS40
  refine seqS1 (a' := ⟨#[.agg #[.bool a1.neg, .slice A2 a1.mag.length c3], .agg #[.bool b5.neg, .slice A6 b5.mag.length c7], .pointer (some ⟨b11, 0, none⟩), .pointer (some ⟨b15, 0, none⟩), .pointer (some ⟨b19, 0, none⟩), .pointer (some ⟨b35, 0, none⟩), .int .i64 vt26, .tuple #[.agg #[.bool vt25.neg, .slice A32 vt25.mag.length c33], .int .i64 vt26], .agg #[.bool a1.neg, .slice A2 a1.mag.length c3], .agg #[.bool b5.neg, .slice A6 b5.mag.length c7], .tuple #[.agg #[.bool vt25.neg, .slice A32 vt25.mag.length c33], .int .i64 vt26], .agg #[.bool vt25.neg, .slice A32 vt25.mag.length c33], .int .i64 vt26, undef], []⟩) (by kernel_rfl) ?_
  refine wpList_nil ?_
  refine hK24 _ _ ?_
  refine wp_seq_k (fun K41 hK42 => ?_)
  refine wp_region_lit ?_
  refine seqK rfl (does_run (run_loadN (n := 2) rfl Try.underlying53 rfl (by kernel_rfl) (by kernel_rfl : _ = Value.pointer (some ⟨b35, 0, none⟩)) (cs := [.bool vt25.neg, .slice A32 vt25.mag.length c33]) rfl (HS40.cells 0 2 _ rfl)) ?_)
  have HS43 := HS40.u1
  refine seqK rfl (does_store (n := 2) (vs := [.bool vt25.neg, .slice A32 vt25.mag.length c33]) (cs' := #[.bool vt25.neg, .slice A32 vt25.mag.length c33]) rfl (by kernel_rfl) (by kernel_rfl : _ = Value.pointer (some ⟨b19, 0, none⟩)) (by kernel_rfl : _ = Value.agg #[.bool vt25.neg, .slice A32 vt25.mag.length c33]) rfl rfl (by intro u_ hu_; simp only [List.mem_cons, List.not_mem_nil, or_false] at hu_; rcases hu_ with rfl | rfl <;> rfl) HS43 (Nat.le_of_ble_eq_true rfl) (by kernel_rfl) ?_)
  intro W44 HS45
  refine wpList_nil ?_
  refine hK42 _ _ ?_
  refine wp_ret ?_
  refine hret _ _ ?_
  refine ends (v := Value.agg #[.bool vt25.neg, .slice A32 vt25.mag.length c33]) (results1 (q1 := .cell 4 53) (by kernel_rfl) (resN (n := 2) (cs := [.bool vt25.neg, .slice A32 vt25.mag.length c33]) (by kernel_rfl : _ = Value.pointer (some ⟨b19, 0, none⟩)) Try.underlying53 rfl (by kernel_rfl) rfl (HS45.cells 0 2 _ rfl))) (by kernel_rfl) ?_
  have HS46 := HS45.drop
  have HS47 := HS46.drop
  have HS48 := HS47.drop
  have HS49 := HS48.drop
  injection h with h
  subst h
  exact ⟨f28, A32, c33, rfl, L29, HS49, HR34⟩

set_option maxRecDepth 100000 in
set_option maxHeartbeats 4000000 in
theorem big_Sign.calls (k : Nat) (A2 : Option Addr) (c3 : Nat) (a1 : S_Int) {t w : World} {f : FM} {H : List Seg} (HS : St t w f (H)) (HR4 : SlR (tInt .u32) f A2 c3 a1.mag) (r1 : Int) (h : big_Sign k a1 = some r1) :
    Calls Try.prog 40 #[.agg #[.bool a1.neg, .slice A2 a1.mag.length c3]] w (fun e w' => ∃ (g : FM), e = .returned (Value.int .i64 r1) ∧ FM.le f g ∧ St t w' g (H)) := by
  unfold big_Sign at h
  refine enter Try.func40 rfl (tm := #[.agg #[.bool a1.neg, .slice A2 a1.mag.length c3], undef, undef, undef, undef, undef, undef, undef, undef, undef, undef]) (by kernel_rfl) ?_
  intro B hret hnor hnp
  refine wp_seq_k (fun K5 hK6 => ?_)
  refine wp_region_lit ?_
  refine seqK rfl (does_box (cs := #[.bool a1.neg, .slice A2 a1.mag.length c3]) rfl (by kernel_rfl : _ = Value.agg #[.bool a1.neg, .slice A2 a1.mag.length c3]) rfl HS ?_)
  intro b7 W8 HS9
  refine seqS1 (a' := ⟨#[.agg #[.bool a1.neg, .slice A2 a1.mag.length c3], .pointer (some ⟨b7, 0, none⟩), .int .i64 0, undef, undef, undef, undef, undef, undef, undef, undef], []⟩) (by kernel_rfl) ?_
  refine wpList_nil ?_
  refine hK6 _ _ ?_
  refine wp_seq_k (fun K11 hK12 => ?_)
  refine blockK (fun B13 hx14 hn15 hr16 ho17 hp18 => ?_)
  refine wp_seq_k (fun K20 hK21 => ?_)
  refine wp_region_lit ?_
  refine seqL1 (by kernel_rfl) ?_
  refine seqK rfl (does_run (run_load rfl Try.underlying4 rfl (by kernel_rfl : _ = Value.pointer (some ⟨b7, 0, none⟩)) (HS9.cell 0)) ?_)
  refine seqS1 (a' := ⟨#[.agg #[.bool a1.neg, .slice A2 a1.mag.length c3], .pointer (some ⟨b7, 0, none⟩), .int .i64 0, .bool a1.neg, .pointer (some ⟨b7, 0, none⟩), .bool a1.neg, undef, undef, undef, undef, undef], []⟩) (by kernel_rfl) ?_
  refine wpList_nil ?_
  refine hK21 _ _ ?_
  have hq_ := ite_some h; clear h; rcases hq_ with ⟨c23, h⟩ | ⟨c23, h⟩
  · have c23 : a1.neg = true := c23
    refine wpRwI 3 (x := a1.neg) (v := true) (by kernel_rfl) c23 ?_
    refine wpRwI 5 (x := a1.neg) (v := true) (by kernel_rfl) c23 ?_
    refine condT (by kernel_rfl) ?_
    refine wp_seq_k (fun K24 hK25 => ?_)
    refine wp_region_lit ?_
    refine seqS1 (a' := ⟨#[.agg #[.bool a1.neg, .slice A2 a1.mag.length c3], .pointer (some ⟨b7, 0, none⟩), .int .i64 (-1), .bool true, .pointer (some ⟨b7, 0, none⟩), .bool true, undef, undef, undef, undef, undef], []⟩) (by kernel_rfl) ?_
    refine wpList_nil ?_
    refine hK25 _ _ ?_
    refine wp_ret ?_
    refine hr16 _ _ ?_
    refine hret _ _ ?_
    refine ends_still (v := Value.int .i64 (-1)) (by kernel_rfl) (by kernel_rfl) ?_
    have HS34 := HS9.drop
    injection h with h
    subst h
    exact ⟨f, rfl, FM.le.refl _, HS34⟩
  · have c23 : ¬ (a1.neg = true) := c23
    refine wpRwI 3 (x := a1.neg) (v := false) (by kernel_rfl) (Bool.eq_false_iff.mpr c23) ?_
    refine wpRwI 5 (x := a1.neg) (v := false) (by kernel_rfl) (Bool.eq_false_iff.mpr c23) ?_
    refine condF (by kernel_rfl) ?_
    refine wp_seq_k (fun K26 hK27 => ?_)
    refine wp_region_lit ?_
    refine seqL1 (by kernel_rfl) ?_
    refine seqK rfl (does_run (run_load rfl Try.underlying51 rfl (by kernel_rfl : _ = Value.pointer (some ⟨b7, 1, none⟩)) (HS9.cell 1)) ?_)
    refine seqS3 (a' := ⟨#[.agg #[.bool a1.neg, .slice A2 a1.mag.length c3], .pointer (some ⟨b7, 0, none⟩), .int .i64 0, .bool false, .pointer (some ⟨b7, 0, none⟩), .bool false, .bool (decide ((a1.mag.length : Int) > 0)), .pointer (some ⟨b7, 1, none⟩), .slice A2 a1.mag.length c3, .int .i64 (a1.mag.length : Int), .bool (decide ((a1.mag.length : Int) > 0))], []⟩) (by kernel_rfl) ?_
    refine wpList_nil ?_
    refine hK27 _ _ ?_
    have hq_ := ite_some h; clear h; rcases hq_ with ⟨c29, h⟩ | ⟨c29, h⟩
    · have c29 : (a1.mag.length : Int) > 0 := c29
      refine wpRwI 6 (x := (decide ((a1.mag.length : Int) > 0))) (v := true) (by kernel_rfl) (decide_eq_true c29) ?_
      refine wpRwI 10 (x := (decide ((a1.mag.length : Int) > 0))) (v := true) (by kernel_rfl) (decide_eq_true c29) ?_
      refine condT (by kernel_rfl) ?_
      refine wp_seq_k (fun K30 hK31 => ?_)
      refine wp_region_lit ?_
      refine seqS1 (a' := ⟨#[.agg #[.bool a1.neg, .slice A2 a1.mag.length c3], .pointer (some ⟨b7, 0, none⟩), .int .i64 1, .bool false, .pointer (some ⟨b7, 0, none⟩), .bool false, .bool true, .pointer (some ⟨b7, 1, none⟩), .slice A2 a1.mag.length c3, .int .i64 (a1.mag.length : Int), .bool true], []⟩) (by kernel_rfl) ?_
      refine wpList_nil ?_
      refine hK31 _ _ ?_
      refine wp_ret ?_
      refine hr16 _ _ ?_
      refine hret _ _ ?_
      refine ends_still (v := Value.int .i64 1) (by kernel_rfl) (by kernel_rfl) ?_
      have HS35 := HS9.drop
      injection h with h
      subst h
      exact ⟨f, rfl, FM.le.refl _, HS35⟩
    · have c29 : ¬ ((a1.mag.length : Int) > 0) := c29
      refine wpRwI 6 (x := (decide ((a1.mag.length : Int) > 0))) (v := false) (by kernel_rfl) (decide_eq_false c29) ?_
      refine wpRwI 10 (x := (decide ((a1.mag.length : Int) > 0))) (v := false) (by kernel_rfl) (decide_eq_false c29) ?_
      refine condF (by kernel_rfl) ?_
      refine wp_skip ?_
      refine hn15 _ _ ?_
      refine hK12 _ _ ?_
      refine wp_seq_k (fun K32 hK33 => ?_)
      refine wp_region_lit ?_
      refine seqS1 (a' := ⟨#[.agg #[.bool a1.neg, .slice A2 a1.mag.length c3], .pointer (some ⟨b7, 0, none⟩), .int .i64 0, .bool false, .pointer (some ⟨b7, 0, none⟩), .bool false, .bool false, .pointer (some ⟨b7, 1, none⟩), .slice A2 a1.mag.length c3, .int .i64 (a1.mag.length : Int), .bool false], []⟩) (by kernel_rfl) ?_
      refine wpList_nil ?_
      refine hK33 _ _ ?_
      refine wp_ret ?_
      refine hret _ _ ?_
      refine ends_still (v := Value.int .i64 0) (by kernel_rfl) (by kernel_rfl) ?_
      have HS36 := HS9.drop
      injection h with h
      subst h
      exact ⟨f, rfl, FM.le.refl _, HS36⟩

set_option maxRecDepth 100000 in
set_option maxHeartbeats 4000000 in
theorem cmp_isNaN_int.calls (k : Nat)  (x1 : Int) {t w : World} {f : FM} {H : List Seg} (HS : St t w f (H)) (r1 : Bool) (h : cmp_isNaN_int k x1 = some r1) :
    Calls Try.prog 51 #[.int .i64 x1] w (fun e w' => ∃ (g : FM), e = .returned (Value.bool r1) ∧ FM.le f g ∧ St t w' g (H)) := by
  unfold cmp_isNaN_int at h
  refine enter Try.func51 rfl (tm := #[.int .i64 x1, undef, undef, undef, undef, undef]) (by kernel_rfl) ?_
  intro B hret hnor hnp
  refine wp_seq_k (fun K2 hK3 => ?_)
  refine wp_region_lit ?_
  refine seqS1 (a' := ⟨#[.int .i64 x1, undef, .bool false, undef, undef, undef], []⟩) (by kernel_rfl) ?_
  refine wpList_nil ?_
  refine hK3 _ _ ?_
  refine wp_seq_k (fun K4 hK5 => ?_)
  refine wp_region_lit ?_
  refine seqS4 (a' := ⟨#[.int .i64 x1, undef, .bool (x1 != x1), .int .i64 x1, .int .i64 x1, .bool (x1 != x1)], []⟩) (by kernel_rfl) ?_
  refine wpList_nil ?_
  refine hK5 _ _ ?_
  refine wp_ret ?_
  refine hret _ _ ?_
  refine ends_still (v := Value.bool (x1 != x1)) (by kernel_rfl) (by kernel_rfl) ?_
  injection h with h
  subst h
  exact ⟨f, rfl, FM.le.refl _, HS⟩

set_option maxRecDepth 100000 in
set_option maxHeartbeats 4000000 in
theorem cmp_Compare_int.calls (k : Nat)  (x1 : Int) (y2 : Int) {t w : World} {f : FM} {H : List Seg} (HS : St t w f (H)) (r1 : Int) (h : cmp_Compare_int k x1 y2 = some r1) :
    Calls Try.prog 39 #[.int .i64 x1, .int .i64 y2] w (fun e w' => ∃ (g : FM), e = .returned (Value.int .i64 r1) ∧ FM.le f g ∧ St t w' g (H)) := by
  unfold cmp_Compare_int at h
  refine enter Try.func39 rfl (tm := #[.int .i64 x1, .int .i64 y2, undef, undef, undef, undef, undef, undef, undef, undef, undef, undef, undef, undef, undef, undef, undef, undef, undef, undef]) (by kernel_rfl) ?_
  intro B hret hnor hnp
  refine wp_seq_k (fun K3 hK4 => ?_)
  refine wp_region_lit ?_
  refine seqS1 (a' := ⟨#[.int .i64 x1, .int .i64 y2, undef, undef, .int .i64 0, undef, undef, undef, undef, undef, undef, undef, undef, undef, undef, undef, undef, undef, undef, undef], []⟩) (by kernel_rfl) ?_
  refine wpList_nil ?_
  refine hK4 _ _ ?_
  refine wp_seq_k (fun K5 hK6 => ?_)
  refine wp_region_lit ?_
  have hq_ := bind_some h; clear h; obtain ⟨vt7, hc8, h⟩ := hq_
  refine seqL1 (by kernel_rfl) ?_
  refine seqK rfl (does_call (f := 51) (args := #[.int .i64 x1]) (by kernel_rfl) (cmp_isNaN_int.calls k x1 HS vt7 hc8) ?_)
  rintro _ W11 ⟨f9, rfl, L10, HS12⟩
  refine ⟨_, rfl, ?_⟩
  refine seqS1 (a' := ⟨#[.int .i64 x1, .int .i64 y2, undef, undef, .int .i64 0, .bool vt7, undef, .int .i64 x1, .bool vt7, undef, undef, undef, undef, undef, undef, undef, undef, undef, undef, undef], []⟩) (by kernel_rfl) ?_
  refine wpList_nil ?_
  refine hK6 _ _ ?_
  refine wp_seq_k (fun K13 hK14 => ?_)
  refine wp_region_lit ?_
  have hq_ := bind_some h; clear h; obtain ⟨vt15, hc16, h⟩ := hq_
  refine seqL1 (by kernel_rfl) ?_
  refine seqK rfl (does_call (f := 51) (args := #[.int .i64 y2]) (by kernel_rfl) (cmp_isNaN_int.calls k y2 HS12 vt15 hc16) ?_)
  rintro _ W19 ⟨f17, rfl, L18, HS20⟩
  refine ⟨_, rfl, ?_⟩
  refine seqS1 (a' := ⟨#[.int .i64 x1, .int .i64 y2, undef, undef, .int .i64 0, .bool vt7, .bool vt15, .int .i64 x1, .bool vt7, .int .i64 y2, .bool vt15, undef, undef, undef, undef, undef, undef, undef, undef, undef], []⟩) (by kernel_rfl) ?_
  refine wpList_nil ?_
  refine hK14 _ _ ?_
  refine wp_seq_k (fun K21 hK22 => ?_)
  refine wp_seq_k (fun K23 hK24 => ?_)
  refine wp_region_lit ?_
  refine seqS1 (a' := ⟨#[.int .i64 x1, .int .i64 y2, undef, undef, .int .i64 0, .bool vt7, .bool vt15, .int .i64 x1, .bool vt7, .int .i64 y2, .bool vt15, .bool vt7, undef, undef, undef, undef, undef, undef, undef, undef], []⟩) (by kernel_rfl) ?_
  refine wpList_nil ?_
  refine hK24 _ _ ?_
  have hq_ := ite_some h; clear h; rcases hq_ with ⟨c26, h⟩ | ⟨c26, h⟩
  · have c26 : vt7 = true := c26
    refine wpRwI 5 (x := vt7) (v := true) (by kernel_rfl) c26 ?_
    refine wpRwI 8 (x := vt7) (v := true) (by kernel_rfl) c26 ?_
    refine wpRwI 11 (x := vt7) (v := true) (by kernel_rfl) c26 ?_
    refine condT (by kernel_rfl) ?_
    refine wp_seq_k (fun K27 hK28 => ?_)
    refine wp_seq_k (fun K29 hK30 => ?_)
    refine wp_region_lit ?_
    refine seqS1 (a' := ⟨#[.int .i64 x1, .int .i64 y2, undef, undef, .int .i64 0, .bool true, .bool vt15, .int .i64 x1, .bool true, .int .i64 y2, .bool vt15, .bool true, .bool vt15, undef, undef, undef, undef, undef, undef, undef], []⟩) (by kernel_rfl) ?_
    refine wpList_nil ?_
    refine hK30 _ _ ?_
    have hq_ := ite_some h; clear h; rcases hq_ with ⟨c32, h⟩ | ⟨c32, h⟩
    · have c32 : vt15 = true := c32
      refine wpRwI 6 (x := vt15) (v := true) (by kernel_rfl) c32 ?_
      refine wpRwI 10 (x := vt15) (v := true) (by kernel_rfl) c32 ?_
      refine wpRwI 12 (x := vt15) (v := true) (by kernel_rfl) c32 ?_
      refine condT (by kernel_rfl) ?_
      refine wp_seq_k (fun K33 hK34 => ?_)
      refine wp_region_lit ?_
      refine seqS1 (a' := ⟨#[.int .i64 x1, .int .i64 y2, undef, undef, .int .i64 0, .bool true, .bool true, .int .i64 x1, .bool true, .int .i64 y2, .bool true, .bool true, .bool true, undef, undef, undef, undef, undef, undef, undef], []⟩) (by kernel_rfl) ?_
      refine wpList_nil ?_
      refine hK34 _ _ ?_
      refine wp_ret ?_
      refine hret _ _ ?_
      refine ends_still (v := Value.int .i64 0) (by kernel_rfl) (by kernel_rfl) ?_
      injection h with h
      subst h
      exact ⟨f17, rfl, (L10.trans L18), HS20⟩
    · have c32 : ¬ (vt15 = true) := c32
      refine wpRwI 6 (x := vt15) (v := false) (by kernel_rfl) (Bool.eq_false_iff.mpr c32) ?_
      refine wpRwI 10 (x := vt15) (v := false) (by kernel_rfl) (Bool.eq_false_iff.mpr c32) ?_
      refine wpRwI 12 (x := vt15) (v := false) (by kernel_rfl) (Bool.eq_false_iff.mpr c32) ?_
      refine condF (by kernel_rfl) ?_
      refine wp_skip ?_
      refine hK28 _ _ ?_
      refine wp_seq_k (fun K35 hK36 => ?_)
      refine wp_region_lit ?_
      refine seqS1 (a' := ⟨#[.int .i64 x1, .int .i64 y2, undef, undef, .int .i64 (-1), .bool true, .bool false, .int .i64 x1, .bool true, .int .i64 y2, .bool false, .bool true, .bool false, undef, undef, undef, undef, undef, undef, undef], []⟩) (by kernel_rfl) ?_
      refine wpList_nil ?_
      refine hK36 _ _ ?_
      refine wp_ret ?_
      refine hret _ _ ?_
      refine ends_still (v := Value.int .i64 (-1)) (by kernel_rfl) (by kernel_rfl) ?_
      injection h with h
      subst h
      exact ⟨f17, rfl, (L10.trans L18), HS20⟩
  · have c26 : ¬ (vt7 = true) := c26
    refine wpRwI 5 (x := vt7) (v := false) (by kernel_rfl) (Bool.eq_false_iff.mpr c26) ?_
    refine wpRwI 8 (x := vt7) (v := false) (by kernel_rfl) (Bool.eq_false_iff.mpr c26) ?_
    refine wpRwI 11 (x := vt7) (v := false) (by kernel_rfl) (Bool.eq_false_iff.mpr c26) ?_
    refine condF (by kernel_rfl) ?_
    refine wp_skip ?_
    refine hK22 _ _ ?_
    refine wp_seq_k (fun K37 hK38 => ?_)
    refine wp_seq_k (fun K39 hK40 => ?_)
    refine wp_region_lit ?_
    refine seqS1 (a' := ⟨#[.int .i64 x1, .int .i64 y2, undef, undef, .int .i64 0, .bool false, .bool vt15, .int .i64 x1, .bool false, .int .i64 y2, .bool vt15, .bool false, undef, .bool vt15, undef, undef, undef, undef, undef, undef], []⟩) (by kernel_rfl) ?_
    refine wpList_nil ?_
    refine hK40 _ _ ?_
    have hq_ := ite_some h; clear h; rcases hq_ with ⟨c42, h⟩ | ⟨c42, h⟩
    · have c42 : vt15 = true := c42
      refine wpRwI 6 (x := vt15) (v := true) (by kernel_rfl) c42 ?_
      refine wpRwI 10 (x := vt15) (v := true) (by kernel_rfl) c42 ?_
      refine wpRwI 13 (x := vt15) (v := true) (by kernel_rfl) c42 ?_
      refine condT (by kernel_rfl) ?_
      refine wp_seq_k (fun K43 hK44 => ?_)
      refine wp_region_lit ?_
      refine seqS1 (a' := ⟨#[.int .i64 x1, .int .i64 y2, undef, undef, .int .i64 1, .bool false, .bool true, .int .i64 x1, .bool false, .int .i64 y2, .bool true, .bool false, undef, .bool true, undef, undef, undef, undef, undef, undef], []⟩) (by kernel_rfl) ?_
      refine wpList_nil ?_
      refine hK44 _ _ ?_
      refine wp_ret ?_
      refine hret _ _ ?_
      refine ends_still (v := Value.int .i64 1) (by kernel_rfl) (by kernel_rfl) ?_
      injection h with h
      subst h
      exact ⟨f17, rfl, (L10.trans L18), HS20⟩
    · have c42 : ¬ (vt15 = true) := c42
      refine wpRwI 6 (x := vt15) (v := false) (by kernel_rfl) (Bool.eq_false_iff.mpr c42) ?_
      refine wpRwI 10 (x := vt15) (v := false) (by kernel_rfl) (Bool.eq_false_iff.mpr c42) ?_
      refine wpRwI 13 (x := vt15) (v := false) (by kernel_rfl) (Bool.eq_false_iff.mpr c42) ?_
      refine condF (by kernel_rfl) ?_
      refine wp_skip ?_
      refine hK38 _ _ ?_
      refine wp_seq_k (fun K45 hK46 => ?_)
      refine wp_seq_k (fun K47 hK48 => ?_)
      refine wp_region_lit ?_
      refine seqS3 (a' := ⟨#[.int .i64 x1, .int .i64 y2, undef, undef, .int .i64 0, .bool false, .bool false, .int .i64 x1, .bool false, .int .i64 y2, .bool false, .bool false, undef, .bool false, .int .i64 x1, .int .i64 y2, .bool (decide (x1 < y2)), undef, undef, undef], []⟩) (by kernel_rfl) ?_
      refine wpList_nil ?_
      refine hK48 _ _ ?_
      have hq_ := ite_some h; clear h; rcases hq_ with ⟨c50, h⟩ | ⟨c50, h⟩
      · have c50 : x1 < y2 := c50
        refine wpRwI 16 (x := (decide (x1 < y2))) (v := true) (by kernel_rfl) (decide_eq_true c50) ?_
        refine condT (by kernel_rfl) ?_
        refine wp_seq_k (fun K51 hK52 => ?_)
        refine wp_region_lit ?_
        refine seqS1 (a' := ⟨#[.int .i64 x1, .int .i64 y2, undef, undef, .int .i64 (-1), .bool false, .bool false, .int .i64 x1, .bool false, .int .i64 y2, .bool false, .bool false, undef, .bool false, .int .i64 x1, .int .i64 y2, .bool true, undef, undef, undef], []⟩) (by kernel_rfl) ?_
        refine wpList_nil ?_
        refine hK52 _ _ ?_
        refine wp_ret ?_
        refine hret _ _ ?_
        refine ends_still (v := Value.int .i64 (-1)) (by kernel_rfl) (by kernel_rfl) ?_
        injection h with h
        subst h
        exact ⟨f17, rfl, (L10.trans L18), HS20⟩
      · have c50 : ¬ (x1 < y2) := c50
        refine wpRwI 16 (x := (decide (x1 < y2))) (v := false) (by kernel_rfl) (decide_eq_false c50) ?_
        refine condF (by kernel_rfl) ?_
        refine wp_skip ?_
        refine hK46 _ _ ?_
        refine wp_seq_k (fun K53 hK54 => ?_)
        refine wp_seq_k (fun K55 hK56 => ?_)
        refine wp_region_lit ?_
        refine seqS3 (a' := ⟨#[.int .i64 x1, .int .i64 y2, undef, undef, .int .i64 0, .bool false, .bool false, .int .i64 x1, .bool false, .int .i64 y2, .bool false, .bool false, undef, .bool false, .int .i64 x1, .int .i64 y2, .bool false, .int .i64 x1, .int .i64 y2, .bool (decide (x1 > y2))], []⟩) (by kernel_rfl) ?_
        refine wpList_nil ?_
        refine hK56 _ _ ?_
        have hq_ := ite_some h; clear h; rcases hq_ with ⟨c58, h⟩ | ⟨c58, h⟩
        · have c58 : x1 > y2 := c58
          refine wpRwI 19 (x := (decide (x1 > y2))) (v := true) (by kernel_rfl) (decide_eq_true c58) ?_
          refine condT (by kernel_rfl) ?_
          refine wp_seq_k (fun K59 hK60 => ?_)
          refine wp_region_lit ?_
          refine seqS1 (a' := ⟨#[.int .i64 x1, .int .i64 y2, undef, undef, .int .i64 1, .bool false, .bool false, .int .i64 x1, .bool false, .int .i64 y2, .bool false, .bool false, undef, .bool false, .int .i64 x1, .int .i64 y2, .bool false, .int .i64 x1, .int .i64 y2, .bool true], []⟩) (by kernel_rfl) ?_
          refine wpList_nil ?_
          refine hK60 _ _ ?_
          refine wp_ret ?_
          refine hret _ _ ?_
          refine ends_still (v := Value.int .i64 1) (by kernel_rfl) (by kernel_rfl) ?_
          injection h with h
          subst h
          exact ⟨f17, rfl, (L10.trans L18), HS20⟩
        · have c58 : ¬ (x1 > y2) := c58
          refine wpRwI 19 (x := (decide (x1 > y2))) (v := false) (by kernel_rfl) (decide_eq_false c58) ?_
          refine condF (by kernel_rfl) ?_
          refine wp_skip ?_
          refine hK54 _ _ ?_
          refine wp_seq_k (fun K61 hK62 => ?_)
          refine wp_region_lit ?_
          refine seqS1 (a' := ⟨#[.int .i64 x1, .int .i64 y2, undef, undef, .int .i64 0, .bool false, .bool false, .int .i64 x1, .bool false, .int .i64 y2, .bool false, .bool false, undef, .bool false, .int .i64 x1, .int .i64 y2, .bool false, .int .i64 x1, .int .i64 y2, .bool false], []⟩) (by kernel_rfl) ?_
          refine wpList_nil ?_
          refine hK62 _ _ ?_
          refine wp_ret ?_
          refine hret _ _ ?_
          refine ends_still (v := Value.int .i64 0) (by kernel_rfl) (by kernel_rfl) ?_
          injection h with h
          subst h
          exact ⟨f17, rfl, (L10.trans L18), HS20⟩

set_option maxRecDepth 100000 in
set_option maxHeartbeats 4000000 in
theorem cmp_isNaN_uint32.calls (k : Nat)  (x1 : Int) {t w : World} {f : FM} {H : List Seg} (HS : St t w f (H)) (r1 : Bool) (h : cmp_isNaN_uint32 k x1 = some r1) :
    Calls Try.prog 59 #[.int .u32 x1] w (fun e w' => ∃ (g : FM), e = .returned (Value.bool r1) ∧ FM.le f g ∧ St t w' g (H)) := by
  unfold cmp_isNaN_uint32 at h
  refine enter Try.func59 rfl (tm := #[.int .u32 x1, undef, undef, undef, undef, undef]) (by kernel_rfl) ?_
  intro B hret hnor hnp
  refine wp_seq_k (fun K2 hK3 => ?_)
  refine wp_region_lit ?_
  refine seqS1 (a' := ⟨#[.int .u32 x1, undef, .bool false, undef, undef, undef], []⟩) (by kernel_rfl) ?_
  refine wpList_nil ?_
  refine hK3 _ _ ?_
  refine wp_seq_k (fun K4 hK5 => ?_)
  refine wp_region_lit ?_
  refine seqS4 (a' := ⟨#[.int .u32 x1, undef, .bool (x1 != x1), .int .u32 x1, .int .u32 x1, .bool (x1 != x1)], []⟩) (by kernel_rfl) ?_
  refine wpList_nil ?_
  refine hK5 _ _ ?_
  refine wp_ret ?_
  refine hret _ _ ?_
  refine ends_still (v := Value.bool (x1 != x1)) (by kernel_rfl) (by kernel_rfl) ?_
  injection h with h
  subst h
  exact ⟨f, rfl, FM.le.refl _, HS⟩

set_option maxRecDepth 100000 in
set_option maxHeartbeats 4000000 in
theorem cmp_Compare_uint32.calls (k : Nat)  (x1 : Int) (y2 : Int) {t w : World} {f : FM} {H : List Seg} (HS : St t w f (H)) (r1 : Int) (h : cmp_Compare_uint32 k x1 y2 = some r1) :
    Calls Try.prog 52 #[.int .u32 x1, .int .u32 y2] w (fun e w' => ∃ (g : FM), e = .returned (Value.int .i64 r1) ∧ FM.le f g ∧ St t w' g (H)) := by
  unfold cmp_Compare_uint32 at h
  refine enter Try.func52 rfl (tm := #[.int .u32 x1, .int .u32 y2, undef, undef, undef, undef, undef, undef, undef, undef, undef, undef, undef, undef, undef, undef, undef, undef, undef, undef]) (by kernel_rfl) ?_
  intro B hret hnor hnp
  refine wp_seq_k (fun K3 hK4 => ?_)
  refine wp_region_lit ?_
  refine seqS1 (a' := ⟨#[.int .u32 x1, .int .u32 y2, undef, undef, .int .i64 0, undef, undef, undef, undef, undef, undef, undef, undef, undef, undef, undef, undef, undef, undef, undef], []⟩) (by kernel_rfl) ?_
  refine wpList_nil ?_
  refine hK4 _ _ ?_
  refine wp_seq_k (fun K5 hK6 => ?_)
  refine wp_region_lit ?_
  have hq_ := bind_some h; clear h; obtain ⟨vt7, hc8, h⟩ := hq_
  refine seqL1 (by kernel_rfl) ?_
  refine seqK rfl (does_call (f := 59) (args := #[.int .u32 x1]) (by kernel_rfl) (cmp_isNaN_uint32.calls k x1 HS vt7 hc8) ?_)
  rintro _ W11 ⟨f9, rfl, L10, HS12⟩
  refine ⟨_, rfl, ?_⟩
  refine seqS1 (a' := ⟨#[.int .u32 x1, .int .u32 y2, undef, undef, .int .i64 0, .bool vt7, undef, .int .u32 x1, .bool vt7, undef, undef, undef, undef, undef, undef, undef, undef, undef, undef, undef], []⟩) (by kernel_rfl) ?_
  refine wpList_nil ?_
  refine hK6 _ _ ?_
  refine wp_seq_k (fun K13 hK14 => ?_)
  refine wp_region_lit ?_
  have hq_ := bind_some h; clear h; obtain ⟨vt15, hc16, h⟩ := hq_
  refine seqL1 (by kernel_rfl) ?_
  refine seqK rfl (does_call (f := 59) (args := #[.int .u32 y2]) (by kernel_rfl) (cmp_isNaN_uint32.calls k y2 HS12 vt15 hc16) ?_)
  rintro _ W19 ⟨f17, rfl, L18, HS20⟩
  refine ⟨_, rfl, ?_⟩
  refine seqS1 (a' := ⟨#[.int .u32 x1, .int .u32 y2, undef, undef, .int .i64 0, .bool vt7, .bool vt15, .int .u32 x1, .bool vt7, .int .u32 y2, .bool vt15, undef, undef, undef, undef, undef, undef, undef, undef, undef], []⟩) (by kernel_rfl) ?_
  refine wpList_nil ?_
  refine hK14 _ _ ?_
  refine wp_seq_k (fun K21 hK22 => ?_)
  refine wp_seq_k (fun K23 hK24 => ?_)
  refine wp_region_lit ?_
  refine seqS1 (a' := ⟨#[.int .u32 x1, .int .u32 y2, undef, undef, .int .i64 0, .bool vt7, .bool vt15, .int .u32 x1, .bool vt7, .int .u32 y2, .bool vt15, .bool vt7, undef, undef, undef, undef, undef, undef, undef, undef], []⟩) (by kernel_rfl) ?_
  refine wpList_nil ?_
  refine hK24 _ _ ?_
  have hq_ := ite_some h; clear h; rcases hq_ with ⟨c26, h⟩ | ⟨c26, h⟩
  · have c26 : vt7 = true := c26
    refine wpRwI 5 (x := vt7) (v := true) (by kernel_rfl) c26 ?_
    refine wpRwI 8 (x := vt7) (v := true) (by kernel_rfl) c26 ?_
    refine wpRwI 11 (x := vt7) (v := true) (by kernel_rfl) c26 ?_
    refine condT (by kernel_rfl) ?_
    refine wp_seq_k (fun K27 hK28 => ?_)
    refine wp_seq_k (fun K29 hK30 => ?_)
    refine wp_region_lit ?_
    refine seqS1 (a' := ⟨#[.int .u32 x1, .int .u32 y2, undef, undef, .int .i64 0, .bool true, .bool vt15, .int .u32 x1, .bool true, .int .u32 y2, .bool vt15, .bool true, .bool vt15, undef, undef, undef, undef, undef, undef, undef], []⟩) (by kernel_rfl) ?_
    refine wpList_nil ?_
    refine hK30 _ _ ?_
    have hq_ := ite_some h; clear h; rcases hq_ with ⟨c32, h⟩ | ⟨c32, h⟩
    · have c32 : vt15 = true := c32
      refine wpRwI 6 (x := vt15) (v := true) (by kernel_rfl) c32 ?_
      refine wpRwI 10 (x := vt15) (v := true) (by kernel_rfl) c32 ?_
      refine wpRwI 12 (x := vt15) (v := true) (by kernel_rfl) c32 ?_
      refine condT (by kernel_rfl) ?_
      refine wp_seq_k (fun K33 hK34 => ?_)
      refine wp_region_lit ?_
      refine seqS1 (a' := ⟨#[.int .u32 x1, .int .u32 y2, undef, undef, .int .i64 0, .bool true, .bool true, .int .u32 x1, .bool true, .int .u32 y2, .bool true, .bool true, .bool true, undef, undef, undef, undef, undef, undef, undef], []⟩) (by kernel_rfl) ?_
      refine wpList_nil ?_
      refine hK34 _ _ ?_
      refine wp_ret ?_
      refine hret _ _ ?_
      refine ends_still (v := Value.int .i64 0) (by kernel_rfl) (by kernel_rfl) ?_
      injection h with h
      subst h
      exact ⟨f17, rfl, (L10.trans L18), HS20⟩
    · have c32 : ¬ (vt15 = true) := c32
      refine wpRwI 6 (x := vt15) (v := false) (by kernel_rfl) (Bool.eq_false_iff.mpr c32) ?_
      refine wpRwI 10 (x := vt15) (v := false) (by kernel_rfl) (Bool.eq_false_iff.mpr c32) ?_
      refine wpRwI 12 (x := vt15) (v := false) (by kernel_rfl) (Bool.eq_false_iff.mpr c32) ?_
      refine condF (by kernel_rfl) ?_
      refine wp_skip ?_
      refine hK28 _ _ ?_
      refine wp_seq_k (fun K35 hK36 => ?_)
      refine wp_region_lit ?_
      refine seqS1 (a' := ⟨#[.int .u32 x1, .int .u32 y2, undef, undef, .int .i64 (-1), .bool true, .bool false, .int .u32 x1, .bool true, .int .u32 y2, .bool false, .bool true, .bool false, undef, undef, undef, undef, undef, undef, undef], []⟩) (by kernel_rfl) ?_
      refine wpList_nil ?_
      refine hK36 _ _ ?_
      refine wp_ret ?_
      refine hret _ _ ?_
      refine ends_still (v := Value.int .i64 (-1)) (by kernel_rfl) (by kernel_rfl) ?_
      injection h with h
      subst h
      exact ⟨f17, rfl, (L10.trans L18), HS20⟩
  · have c26 : ¬ (vt7 = true) := c26
    refine wpRwI 5 (x := vt7) (v := false) (by kernel_rfl) (Bool.eq_false_iff.mpr c26) ?_
    refine wpRwI 8 (x := vt7) (v := false) (by kernel_rfl) (Bool.eq_false_iff.mpr c26) ?_
    refine wpRwI 11 (x := vt7) (v := false) (by kernel_rfl) (Bool.eq_false_iff.mpr c26) ?_
    refine condF (by kernel_rfl) ?_
    refine wp_skip ?_
    refine hK22 _ _ ?_
    refine wp_seq_k (fun K37 hK38 => ?_)
    refine wp_seq_k (fun K39 hK40 => ?_)
    refine wp_region_lit ?_
    refine seqS1 (a' := ⟨#[.int .u32 x1, .int .u32 y2, undef, undef, .int .i64 0, .bool false, .bool vt15, .int .u32 x1, .bool false, .int .u32 y2, .bool vt15, .bool false, undef, .bool vt15, undef, undef, undef, undef, undef, undef], []⟩) (by kernel_rfl) ?_
    refine wpList_nil ?_
    refine hK40 _ _ ?_
    have hq_ := ite_some h; clear h; rcases hq_ with ⟨c42, h⟩ | ⟨c42, h⟩
    · have c42 : vt15 = true := c42
      refine wpRwI 6 (x := vt15) (v := true) (by kernel_rfl) c42 ?_
      refine wpRwI 10 (x := vt15) (v := true) (by kernel_rfl) c42 ?_
      refine wpRwI 13 (x := vt15) (v := true) (by kernel_rfl) c42 ?_
      refine condT (by kernel_rfl) ?_
      refine wp_seq_k (fun K43 hK44 => ?_)
      refine wp_region_lit ?_
      refine seqS1 (a' := ⟨#[.int .u32 x1, .int .u32 y2, undef, undef, .int .i64 1, .bool false, .bool true, .int .u32 x1, .bool false, .int .u32 y2, .bool true, .bool false, undef, .bool true, undef, undef, undef, undef, undef, undef], []⟩) (by kernel_rfl) ?_
      refine wpList_nil ?_
      refine hK44 _ _ ?_
      refine wp_ret ?_
      refine hret _ _ ?_
      refine ends_still (v := Value.int .i64 1) (by kernel_rfl) (by kernel_rfl) ?_
      injection h with h
      subst h
      exact ⟨f17, rfl, (L10.trans L18), HS20⟩
    · have c42 : ¬ (vt15 = true) := c42
      refine wpRwI 6 (x := vt15) (v := false) (by kernel_rfl) (Bool.eq_false_iff.mpr c42) ?_
      refine wpRwI 10 (x := vt15) (v := false) (by kernel_rfl) (Bool.eq_false_iff.mpr c42) ?_
      refine wpRwI 13 (x := vt15) (v := false) (by kernel_rfl) (Bool.eq_false_iff.mpr c42) ?_
      refine condF (by kernel_rfl) ?_
      refine wp_skip ?_
      refine hK38 _ _ ?_
      refine wp_seq_k (fun K45 hK46 => ?_)
      refine wp_seq_k (fun K47 hK48 => ?_)
      refine wp_region_lit ?_
      refine seqS3 (a' := ⟨#[.int .u32 x1, .int .u32 y2, undef, undef, .int .i64 0, .bool false, .bool false, .int .u32 x1, .bool false, .int .u32 y2, .bool false, .bool false, undef, .bool false, .int .u32 x1, .int .u32 y2, .bool (decide (x1 < y2)), undef, undef, undef], []⟩) (by kernel_rfl) ?_
      refine wpList_nil ?_
      refine hK48 _ _ ?_
      have hq_ := ite_some h; clear h; rcases hq_ with ⟨c50, h⟩ | ⟨c50, h⟩
      · have c50 : x1 < y2 := c50
        refine wpRwI 16 (x := (decide (x1 < y2))) (v := true) (by kernel_rfl) (decide_eq_true c50) ?_
        refine condT (by kernel_rfl) ?_
        refine wp_seq_k (fun K51 hK52 => ?_)
        refine wp_region_lit ?_
        refine seqS1 (a' := ⟨#[.int .u32 x1, .int .u32 y2, undef, undef, .int .i64 (-1), .bool false, .bool false, .int .u32 x1, .bool false, .int .u32 y2, .bool false, .bool false, undef, .bool false, .int .u32 x1, .int .u32 y2, .bool true, undef, undef, undef], []⟩) (by kernel_rfl) ?_
        refine wpList_nil ?_
        refine hK52 _ _ ?_
        refine wp_ret ?_
        refine hret _ _ ?_
        refine ends_still (v := Value.int .i64 (-1)) (by kernel_rfl) (by kernel_rfl) ?_
        injection h with h
        subst h
        exact ⟨f17, rfl, (L10.trans L18), HS20⟩
      · have c50 : ¬ (x1 < y2) := c50
        refine wpRwI 16 (x := (decide (x1 < y2))) (v := false) (by kernel_rfl) (decide_eq_false c50) ?_
        refine condF (by kernel_rfl) ?_
        refine wp_skip ?_
        refine hK46 _ _ ?_
        refine wp_seq_k (fun K53 hK54 => ?_)
        refine wp_seq_k (fun K55 hK56 => ?_)
        refine wp_region_lit ?_
        refine seqS3 (a' := ⟨#[.int .u32 x1, .int .u32 y2, undef, undef, .int .i64 0, .bool false, .bool false, .int .u32 x1, .bool false, .int .u32 y2, .bool false, .bool false, undef, .bool false, .int .u32 x1, .int .u32 y2, .bool false, .int .u32 x1, .int .u32 y2, .bool (decide (x1 > y2))], []⟩) (by kernel_rfl) ?_
        refine wpList_nil ?_
        refine hK56 _ _ ?_
        have hq_ := ite_some h; clear h; rcases hq_ with ⟨c58, h⟩ | ⟨c58, h⟩
        · have c58 : x1 > y2 := c58
          refine wpRwI 19 (x := (decide (x1 > y2))) (v := true) (by kernel_rfl) (decide_eq_true c58) ?_
          refine condT (by kernel_rfl) ?_
          refine wp_seq_k (fun K59 hK60 => ?_)
          refine wp_region_lit ?_
          refine seqS1 (a' := ⟨#[.int .u32 x1, .int .u32 y2, undef, undef, .int .i64 1, .bool false, .bool false, .int .u32 x1, .bool false, .int .u32 y2, .bool false, .bool false, undef, .bool false, .int .u32 x1, .int .u32 y2, .bool false, .int .u32 x1, .int .u32 y2, .bool true], []⟩) (by kernel_rfl) ?_
          refine wpList_nil ?_
          refine hK60 _ _ ?_
          refine wp_ret ?_
          refine hret _ _ ?_
          refine ends_still (v := Value.int .i64 1) (by kernel_rfl) (by kernel_rfl) ?_
          injection h with h
          subst h
          exact ⟨f17, rfl, (L10.trans L18), HS20⟩
        · have c58 : ¬ (x1 > y2) := c58
          refine wpRwI 19 (x := (decide (x1 > y2))) (v := false) (by kernel_rfl) (decide_eq_false c58) ?_
          refine condF (by kernel_rfl) ?_
          refine wp_skip ?_
          refine hK54 _ _ ?_
          refine wp_seq_k (fun K61 hK62 => ?_)
          refine wp_region_lit ?_
          refine seqS1 (a' := ⟨#[.int .u32 x1, .int .u32 y2, undef, undef, .int .i64 0, .bool false, .bool false, .int .u32 x1, .bool false, .int .u32 y2, .bool false, .bool false, undef, .bool false, .int .u32 x1, .int .u32 y2, .bool false, .int .u32 x1, .int .u32 y2, .bool false], []⟩) (by kernel_rfl) ?_
          refine wpList_nil ?_
          refine hK62 _ _ ?_
          refine wp_ret ?_
          refine hret _ _ ?_
          refine ends_still (v := Value.int .i64 0) (by kernel_rfl) (by kernel_rfl) ?_
          injection h with h
          subst h
          exact ⟨f17, rfl, (L10.trans L18), HS20⟩

set_option maxRecDepth 100000 in
set_option maxHeartbeats 4000000 in
theorem big_cmpMag.calls (k : Nat) (A2 : Option Addr) (c3 : Nat) (A6 : Option Addr) (c7 : Nat) (a1 : List Int) (b5 : List Int) {t w : World} {f : FM} {H : List Seg} (HS : St t w f (H)) (HR4 : SlR (tInt .u32) f A2 c3 a1) (HR8 : SlR (tInt .u32) f A6 c7 b5) (r1 : Int) (h : big_cmpMag k a1 b5 = some r1) :
    Calls Try.prog 41 #[.slice A2 a1.length c3, .slice A6 b5.length c7] w (fun e w' => ∃ (g : FM), e = .returned (Value.int .i64 r1) ∧ FM.le f g ∧ St t w' g (H)) := by
  unfold big_cmpMag at h
  refine enter Try.func41 rfl (tm := #[.slice A2 a1.length c3, .slice A6 b5.length c7, undef, undef, undef, undef, undef, undef, undef, undef, undef, undef, undef, undef, undef, undef, undef, undef, undef, undef, undef, undef, undef, undef, undef, undef, undef, undef, undef, undef, undef, undef, undef, undef, undef, undef, undef, undef, undef, undef, undef]) (by kernel_rfl) ?_
  intro B hret hnor hnp
  refine wp_seq_k (fun K9 hK10 => ?_)
  refine wp_region_lit ?_
  refine seqS1 (a' := ⟨#[.slice A2 a1.length c3, .slice A6 b5.length c7, undef, undef, .int .i64 0, undef, undef, undef, undef, undef, undef, undef, undef, undef, undef, undef, undef, undef, undef, undef, undef, undef, undef, undef, undef, undef, undef, undef, undef, undef, undef, undef, undef, undef, undef, undef, undef, undef, undef, undef, undef], []⟩) (by kernel_rfl) ?_
  refine wpList_nil ?_
  refine hK10 _ _ ?_
  refine wp_seq_k (fun K11 hK12 => ?_)
  refine wp_seq_k (fun K13 hK14 => ?_)
  refine wp_region_lit ?_
  refine seqS5 (a' := ⟨#[.slice A2 a1.length c3, .slice A6 b5.length c7, undef, undef, .int .i64 0, undef, .slice A2 a1.length c3, .int .i64 (a1.length : Int), .slice A6 b5.length c7, .int .i64 (b5.length : Int), .bool ((a1.length : Int) != (b5.length : Int)), undef, undef, undef, undef, undef, undef, undef, undef, undef, undef, undef, undef, undef, undef, undef, undef, undef, undef, undef, undef, undef, undef, undef, undef, undef, undef, undef, undef, undef, undef], []⟩) (by kernel_rfl) ?_
  refine wpList_nil ?_
  refine hK14 _ _ ?_
  have hq_ := ite_some h; clear h; rcases hq_ with ⟨c16, h⟩ | ⟨c16, h⟩
  · have c16 : (a1.length : Int) ≠ (b5.length : Int) := c16
    refine wpRwI 10 (x := ((a1.length : Int) != (b5.length : Int))) (v := true) (by kernel_rfl) (bne_iff_ne.mpr c16) ?_
    refine condT (by kernel_rfl) ?_
    refine wp_seq_k (fun K17 hK18 => ?_)
    refine wp_region_lit ?_
    have hq_ := bind_some h; clear h; obtain ⟨vt19, hc20, h⟩ := hq_
    refine seqL4 (by kernel_rfl) ?_
    refine seqK rfl (does_call (f := 39) (args := #[.int .i64 (a1.length : Int), .int .i64 (b5.length : Int)]) (by kernel_rfl) (cmp_Compare_int.calls k (a1.length : Int) (b5.length : Int) HS vt19 hc20) ?_)
    rintro _ W23 ⟨f21, rfl, L22, HS24⟩
    refine ⟨_, rfl, ?_⟩
    refine seqS1 (a' := ⟨#[.slice A2 a1.length c3, .slice A6 b5.length c7, undef, undef, .int .i64 vt19, undef, .slice A2 a1.length c3, .int .i64 (a1.length : Int), .slice A6 b5.length c7, .int .i64 (b5.length : Int), .bool true, .slice A2 a1.length c3, .int .i64 (a1.length : Int), .slice A6 b5.length c7, .int .i64 (b5.length : Int), .int .i64 vt19, undef, undef, undef, undef, undef, undef, undef, undef, undef, undef, undef, undef, undef, undef, undef, undef, undef, undef, undef, undef, undef, undef, undef, undef, undef], []⟩) (by kernel_rfl) ?_
    refine wpList_nil ?_
    refine hK18 _ _ ?_
    refine wp_ret ?_
    refine hret _ _ ?_
    refine ends_still (v := Value.int .i64 vt19) (by kernel_rfl) (by kernel_rfl) ?_
    injection h with h
    subst h
    exact ⟨f21, rfl, L22, HS24⟩
  · have c16 : ¬ ((a1.length : Int) ≠ (b5.length : Int)) := c16
    refine wpRwI 10 (x := ((a1.length : Int) != (b5.length : Int))) (v := false) (by kernel_rfl) (bne_eq_false_iff_eq.mpr (Decidable.of_not_not c16)) ?_
    refine condF (by kernel_rfl) ?_
    refine wp_skip ?_
    refine hK12 _ _ ?_
    refine wp_seq_k (fun K25 hK26 => ?_)
    refine wp_seq_k (fun K27 hK28 => ?_)
    refine wp_region_lit ?_
    refine seqS4 (a' := ⟨#[.slice A2 a1.length c3, .slice A6 b5.length c7, undef, undef, .int .i64 0, .int .i64 (w64 ((a1.length : Int) - 1)), .slice A2 a1.length c3, .int .i64 (a1.length : Int), .slice A6 b5.length c7, .int .i64 (b5.length : Int), .bool false, undef, undef, undef, undef, undef, .slice A2 a1.length c3, .int .i64 (a1.length : Int), .int .i64 (w64 ((a1.length : Int) - 1)), undef, undef, undef, undef, undef, undef, undef, undef, undef, undef, undef, undef, undef, undef, undef, undef, undef, undef, undef, undef, undef, undef], []⟩) (by kernel_rfl) ?_
    refine wpList_nil ?_
    refine hK28 _ _ ?_
    refine blockK (fun B29 hx30 hn31 hr32 ho33 hp34 => ?_)
    have hq_ := bind_some h; clear h; obtain ⟨o35, hv94, h⟩ := hq_
    have JR96 : ∀ z_, some (Sum.inl z_) = some o35 → some z_ = some r1 := by
      intro z_ e_; injection e_ with e_; subst e_; exact h
    have J95 : ∀ (f89 : FM) (j93 : Nat → Value) (W91 : World) (a_ : Act), FM.le f f89 → some (Sum.inr ()) = some o35 → St t W91 f89 (H) → a_ = ⟨#[.slice A2 a1.length c3, .slice A6 b5.length c7, undef, undef, (j93 0), (j93 1), .slice A2 a1.length c3, .int .i64 (a1.length : Int), .slice A6 b5.length c7, .int .i64 (b5.length : Int), .bool false, undef, undef, undef, undef, undef, .slice A2 a1.length c3, .int .i64 (a1.length : Int), .int .i64 (w64 ((a1.length : Int) - 1)), (j93 2), (j93 3), (j93 4), (j93 5), (j93 6), (j93 7), (j93 8), (j93 9), (j93 10), (j93 11), (j93 12), (j93 13), (j93 14), (j93 15), (j93 16), (j93 17), (j93 18), (j93 19), (j93 20), (j93 21), (j93 22), (j93 23)], []⟩ → K25 a_ W91 := by
      intro f89 j93 W91 a_ L90 hj97 HS92  hfr_; subst hfr_
      injection hj97 with hj97; subst hj97; try dsimp only at h
      simp only [Sum.elim_inr] at h
      refine hK26 _ _ ?_
      refine wp_seq_k (fun K98 hK99 => ?_)
      refine wp_region_lit ?_
      refine seqS1 (a' := ⟨#[.slice A2 a1.length c3, .slice A6 b5.length c7, undef, undef, .int .i64 0, (j93 1), .slice A2 a1.length c3, .int .i64 (a1.length : Int), .slice A6 b5.length c7, .int .i64 (b5.length : Int), .bool false, undef, undef, undef, undef, undef, .slice A2 a1.length c3, .int .i64 (a1.length : Int), .int .i64 (w64 ((a1.length : Int) - 1)), (j93 2), (j93 3), (j93 4), (j93 5), (j93 6), (j93 7), (j93 8), (j93 9), (j93 10), (j93 11), (j93 12), (j93 13), (j93 14), (j93 15), (j93 16), (j93 17), (j93 18), (j93 19), (j93 20), (j93 21), (j93 22), (j93 23)], []⟩) (by kernel_rfl) ?_
      refine wpList_nil ?_
      refine hK99 _ _ ?_
      refine wp_ret ?_
      refine hret _ _ ?_
      refine ends_still (v := Value.int .i64 0) (by kernel_rfl) (by kernel_rfl) ?_
      injection h with h
      subst h
      exact ⟨f89, rfl, L90, HS92⟩
    clear h; have h := hv94; clear hv94
    refine loopK (fun n_ a_ w_ => ∃ (f39 : FM) (i44 : Int) (j43 : Nat → Value), FM.le f f39 ∧ St t w_ f39 (H) ∧ big_cmpMag.l0 k a1 b5 n_ i44 = some o35 ∧ a_ = ⟨#[.slice A2 a1.length c3, .slice A6 b5.length c7, undef, undef, (j43 0), .int .i64 i44, .slice A2 a1.length c3, .int .i64 (a1.length : Int), .slice A6 b5.length c7, .int .i64 (b5.length : Int), .bool false, undef, undef, undef, undef, undef, .slice A2 a1.length c3, .int .i64 (a1.length : Int), .int .i64 (w64 ((a1.length : Int) - 1)), (j43 1), (j43 2), (j43 3), (j43 4), (j43 5), (j43 6), (j43 7), (j43 8), (j43 9), (j43 10), (j43 11), (j43 12), (j43 13), (j43 14), (j43 15), (j43 16), (j43 17), (j43 18), (j43 19), (j43 20), (j43 21), (j43 22)], []⟩) k ⟨f, (w64 ((a1.length : Int) - 1)), (fun i_ => [Value.int .i64 0, undef, undef, undef, undef, undef, undef, undef, undef, undef, undef, undef, undef, undef, undef, undef, undef, undef, undef, undef, undef, undef, undef].getD i_ undef), (FM.le.refl _), HS, h, (by kernel_rfl)⟩ ?_
    clear h
    rintro n38 _ W41 ⟨f39, i44, j43, L40, HS42, h, rfl⟩ K36 hK37
    obtain _ | n38 := n38
    · exact nomatch h
    simp only [big_cmpMag.l0] at h
    refine wp_seq_k (fun K45 hK46 => ?_)
    refine wp_seq_k (fun K47 hK48 => ?_)
    refine wp_region_lit ?_
    refine seqS2 (a' := ⟨#[.slice A2 a1.length c3, .slice A6 b5.length c7, undef, undef, (j43 0), .int .i64 i44, .slice A2 a1.length c3, .int .i64 (a1.length : Int), .slice A6 b5.length c7, .int .i64 (b5.length : Int), .bool false, undef, undef, undef, undef, undef, .slice A2 a1.length c3, .int .i64 (a1.length : Int), .int .i64 (w64 ((a1.length : Int) - 1)), .int .i64 i44, .bool (decide (i44 ≥ 0)), (j43 3), (j43 4), (j43 5), (j43 6), (j43 7), (j43 8), (j43 9), (j43 10), (j43 11), (j43 12), (j43 13), (j43 14), (j43 15), (j43 16), (j43 17), (j43 18), (j43 19), (j43 20), (j43 21), (j43 22)], []⟩) (by kernel_rfl) ?_
    refine wpList_nil ?_
    refine hK48 _ _ ?_
    have hq_ := ite_some h; clear h; rcases hq_ with ⟨c50, h⟩ | ⟨c50, h⟩
    · have c50 : i44 ≥ 0 := c50
      refine wpRwI 20 (x := (decide (i44 ≥ 0))) (v := true) (by kernel_rfl) (decide_eq_true c50) ?_
      refine condT (by kernel_rfl) ?_
      refine wp_skip ?_
      refine hK46 _ _ ?_
      refine wp_seq_k (fun K51 hK52 => ?_)
      refine blockK (fun B53 hx54 hn55 hr56 ho57 hp58 => ?_)
      refine wp_seq_k (fun K60 hK61 => ?_)
      refine heldG (S := Sg t f39 (H) []) (n := 9) (by kernel_rfl) rfl HS42 ?_
      intro W62 HS63
      have hq_ := guard_some h; clear h; obtain ⟨c64, h⟩ := hq_
      have c64 : 0 ≤ i44 := c64
      have hq_ := guard_some h; clear h; obtain ⟨c65, h⟩ := hq_
      have c65 : i44 < (a1.length : Int) := c65
      obtain ⟨b69, of70, cs66, rfl, hr67, hc68⟩ := (HR4.mono L40).at (i := i44) c64 c65
      obtain rfl := hr67
      refine takeG [0, 1] (n := 9) (fuel := 7) (l' := #[true, true, false, false, false, false, false, false, false]) (a' := ⟨#[.slice (some ⟨b69, of70, none⟩) a1.length c3, .slice A6 b5.length c7, undef, undef, (j43 0), .int .i64 i44, .slice (some ⟨b69, of70, none⟩) a1.length c3, .int .i64 (a1.length : Int), .slice A6 b5.length c7, .int .i64 (b5.length : Int), .bool false, undef, undef, undef, undef, undef, .slice (some ⟨b69, of70, none⟩) a1.length c3, .int .i64 (a1.length : Int), .int .i64 (w64 ((a1.length : Int) - 1)), .int .i64 i44, .bool true, (j43 3), (j43 4), .slice (some ⟨b69, of70, none⟩) a1.length c3, .int .i64 i44, (j43 7), (j43 8), (j43 9), (j43 10), (j43 11), (j43 12), (j43 13), (j43 14), (j43 15), (j43 16), (j43 17), (j43 18), (j43 19), (j43 20), (j43 21), (j43 22)], []⟩) rfl (by kernel_rfl) (by kernel_rfl) (by kernel_rfl) (fun ch_ a_ w_ q_ => (fun ch_ a_ w_ q_ => hnp ch_ a_ w_ (hp34 ch_ a_ w_ q_)) ch_ a_ w_ (hp58 ch_ a_ w_ q_)) (Sg.g0 (Sx.of [] (FM.le.refl _) HS63)) ?_
      refine takeGQ 2 [] rfl (by kernel_rfl) (by kernel_rfl) (by kernel_rfl) (by kernel_rfl) (by kernel_rfl) (by kernel_rfl) (fun ch_ a_ w_ q_ => (fun ch_ a_ w_ q_ => hnp ch_ a_ w_ (hp34 ch_ a_ w_ q_)) ch_ a_ w_ (hp58 ch_ a_ w_ q_)) (Sg.g0 (Sx.of [] (FM.le.refl _) HS63)) (fun w_ hw_ => by obtain ⟨g_, hl_, hS_⟩ := hw_.st; exact run_index (sz := 1) rfl Try.underlying51 (by kernel_rfl) (by kernel_rfl : _ = Value.slice (some ⟨b69, of70, none⟩) a1.length c3) (by kernel_rfl : _ = Value.int .i64 i44) c64 c65 w_) ?_
      refine takeGQ 3 [] rfl (by kernel_rfl) (by kernel_rfl) (by kernel_rfl) (by kernel_rfl) (by kernel_rfl) (by kernel_rfl) (fun ch_ a_ w_ q_ => (fun ch_ a_ w_ q_ => hnp ch_ a_ w_ (hp34 ch_ a_ w_ q_)) ch_ a_ w_ (hp58 ch_ a_ w_ q_)) (Sg.g0 (Sx.of [] (FM.le.refl _) HS63)) (fun w_ hw_ => by obtain ⟨g_, hl_, hS_⟩ := hw_.st; exact run_load rfl Try.underlying86 rfl (by kernel_rfl : _ = Value.pointer (some ⟨b69, of70 + (i44 : Int).toNat * 1, none⟩)) ((hc68 hl_ hS_) 0 (by decide))) ?_
      have hq_ := guard_some h; clear h; obtain ⟨c71, h⟩ := hq_
      have c71 : i44 < (b5.length : Int) := c71
      obtain ⟨b75, of76, cs72, rfl, hr73, hc74⟩ := (HR8.mono L40).at (i := i44) c64 c71
      obtain rfl := hr73
      refine takeG [4, 5] (n := 5) (fuel := 3) (l' := #[true, true, true, true, true, true, false, false, false]) (a' := ⟨#[.slice (some ⟨b69, of70, none⟩) a1.length c3, .slice (some ⟨b75, of76, none⟩) b5.length c7, undef, undef, (j43 0), .int .i64 i44, .slice (some ⟨b69, of70, none⟩) a1.length c3, .int .i64 (a1.length : Int), .slice (some ⟨b75, of76, none⟩) b5.length c7, .int .i64 (b5.length : Int), .bool false, undef, undef, undef, undef, undef, .slice (some ⟨b69, of70, none⟩) a1.length c3, .int .i64 (a1.length : Int), .int .i64 (w64 ((a1.length : Int) - 1)), .int .i64 i44, .bool true, (j43 3), (j43 4), .slice (some ⟨b69, of70, none⟩) a1.length c3, .int .i64 i44, .pointer (some ⟨b69, of70 + (i44 : Int).toNat * 1, none⟩), .int .u32 (rd a1 i44), .slice (some ⟨b75, of76, none⟩) b5.length c7, .int .i64 i44, (j43 11), (j43 12), (j43 13), (j43 14), (j43 15), (j43 16), (j43 17), (j43 18), (j43 19), (j43 20), (j43 21), (j43 22)], []⟩) rfl (by kernel_rfl) (by kernel_rfl) (by kernel_rfl) (fun ch_ a_ w_ q_ => (fun ch_ a_ w_ q_ => hnp ch_ a_ w_ (hp34 ch_ a_ w_ q_)) ch_ a_ w_ (hp58 ch_ a_ w_ q_)) (Sg.g0 (Sx.of [] (FM.le.refl _) HS63)) ?_
      refine takeGQ 6 [] rfl (by kernel_rfl) (by kernel_rfl) (by kernel_rfl) (by kernel_rfl) (by kernel_rfl) (by kernel_rfl) (fun ch_ a_ w_ q_ => (fun ch_ a_ w_ q_ => hnp ch_ a_ w_ (hp34 ch_ a_ w_ q_)) ch_ a_ w_ (hp58 ch_ a_ w_ q_)) (Sg.g0 (Sx.of [] (FM.le.refl _) HS63)) (fun w_ hw_ => by obtain ⟨g_, hl_, hS_⟩ := hw_.st; exact run_index (sz := 1) rfl Try.underlying51 (by kernel_rfl) (by kernel_rfl : _ = Value.slice (some ⟨b75, of76, none⟩) b5.length c7) (by kernel_rfl : _ = Value.int .i64 i44) c64 c71 w_) ?_
      refine takeGQ 7 [] rfl (by kernel_rfl) (by kernel_rfl) (by kernel_rfl) (by kernel_rfl) (by kernel_rfl) (by kernel_rfl) (fun ch_ a_ w_ q_ => (fun ch_ a_ w_ q_ => hnp ch_ a_ w_ (hp34 ch_ a_ w_ q_)) ch_ a_ w_ (hp58 ch_ a_ w_ q_)) (Sg.g0 (Sx.of [] (FM.le.refl _) HS63)) (fun w_ hw_ => by obtain ⟨g_, hl_, hS_⟩ := hw_.st; exact run_load rfl Try.underlying86 rfl (by kernel_rfl : _ = Value.pointer (some ⟨b75, of76 + (i44 : Int).toNat * 1, none⟩)) ((hc74 hl_ hS_) 0 (by decide))) ?_
      refine takeG [8] (n := 1) (fuel := 0) (l' := #[true, true, true, true, true, true, true, true, true]) (a' := ⟨#[.slice (some ⟨b69, of70, none⟩) a1.length c3, .slice (some ⟨b75, of76, none⟩) b5.length c7, undef, undef, (j43 0), .int .i64 i44, .slice (some ⟨b69, of70, none⟩) a1.length c3, .int .i64 (a1.length : Int), .slice (some ⟨b75, of76, none⟩) b5.length c7, .int .i64 (b5.length : Int), .bool false, undef, undef, undef, undef, undef, .slice (some ⟨b69, of70, none⟩) a1.length c3, .int .i64 (a1.length : Int), .int .i64 (w64 ((a1.length : Int) - 1)), .int .i64 i44, .bool true, (j43 3), (j43 4), .slice (some ⟨b69, of70, none⟩) a1.length c3, .int .i64 i44, .pointer (some ⟨b69, of70 + (i44 : Int).toNat * 1, none⟩), .int .u32 (rd a1 i44), .slice (some ⟨b75, of76, none⟩) b5.length c7, .int .i64 i44, .pointer (some ⟨b75, of76 + (i44 : Int).toNat * 1, none⟩), .int .u32 (rd b5 i44), .bool ((rd a1 i44) != (rd b5 i44)), (j43 14), (j43 15), (j43 16), (j43 17), (j43 18), (j43 19), (j43 20), (j43 21), (j43 22)], []⟩) rfl (by kernel_rfl) (by kernel_rfl) (by kernel_rfl) (fun ch_ a_ w_ q_ => (fun ch_ a_ w_ q_ => hnp ch_ a_ w_ (hp34 ch_ a_ w_ q_)) ch_ a_ w_ (hp58 ch_ a_ w_ q_)) (Sg.g0 (Sx.of [] (FM.le.refl _) HS63)) ?_
      refine doneG (by kernel_rfl) ?_ _
      refine hK61 _ _ ?_
      have hq_ := ite_some h; clear h; rcases hq_ with ⟨c78, h⟩ | ⟨c78, h⟩
      · have c78 : (rd a1 i44) ≠ (rd b5 i44) := c78
        refine wpRwI 31 (x := ((rd a1 i44) != (rd b5 i44))) (v := true) (by kernel_rfl) (bne_iff_ne.mpr c78) ?_
        refine condT (by kernel_rfl) ?_
        refine wp_seq_k (fun K79 hK80 => ?_)
        refine heldG (S := Sg t f39 (H) []) (n := 10) (by kernel_rfl) rfl HS63 ?_
        intro W81 HS82
        refine takeG [0, 1] (n := 10) (fuel := 8) (l' := #[true, true, false, false, false, false, false, false, false, false]) (a' := ⟨#[.slice (some ⟨b69, of70, none⟩) a1.length c3, .slice (some ⟨b75, of76, none⟩) b5.length c7, undef, undef, (j43 0), .int .i64 i44, .slice (some ⟨b69, of70, none⟩) a1.length c3, .int .i64 (a1.length : Int), .slice (some ⟨b75, of76, none⟩) b5.length c7, .int .i64 (b5.length : Int), .bool false, undef, undef, undef, undef, undef, .slice (some ⟨b69, of70, none⟩) a1.length c3, .int .i64 (a1.length : Int), .int .i64 (w64 ((a1.length : Int) - 1)), .int .i64 i44, .bool true, (j43 3), (j43 4), .slice (some ⟨b69, of70, none⟩) a1.length c3, .int .i64 i44, .pointer (some ⟨b69, of70 + (i44 : Int).toNat * 1, none⟩), .int .u32 (rd a1 i44), .slice (some ⟨b75, of76, none⟩) b5.length c7, .int .i64 i44, .pointer (some ⟨b75, of76 + (i44 : Int).toNat * 1, none⟩), .int .u32 (rd b5 i44), .bool true, .slice (some ⟨b69, of70, none⟩) a1.length c3, .int .i64 i44, (j43 16), (j43 17), (j43 18), (j43 19), (j43 20), (j43 21), (j43 22)], []⟩) rfl (by kernel_rfl) (by kernel_rfl) (by kernel_rfl) (fun ch_ a_ w_ q_ => (fun ch_ a_ w_ q_ => hnp ch_ a_ w_ (hp34 ch_ a_ w_ q_)) ch_ a_ w_ (hp58 ch_ a_ w_ q_)) (Sg.g0 (Sx.of [] (FM.le.refl _) HS82)) ?_
        refine takeGQ 2 [] rfl (by kernel_rfl) (by kernel_rfl) (by kernel_rfl) (by kernel_rfl) (by kernel_rfl) (by kernel_rfl) (fun ch_ a_ w_ q_ => (fun ch_ a_ w_ q_ => hnp ch_ a_ w_ (hp34 ch_ a_ w_ q_)) ch_ a_ w_ (hp58 ch_ a_ w_ q_)) (Sg.g0 (Sx.of [] (FM.le.refl _) HS82)) (fun w_ hw_ => by obtain ⟨g_, hl_, hS_⟩ := hw_.st; exact run_index (sz := 1) rfl Try.underlying51 (by kernel_rfl) (by kernel_rfl : _ = Value.slice (some ⟨b69, of70, none⟩) a1.length c3) (by kernel_rfl : _ = Value.int .i64 i44) c64 c65 w_) ?_
        refine takeGQ 3 [] rfl (by kernel_rfl) (by kernel_rfl) (by kernel_rfl) (by kernel_rfl) (by kernel_rfl) (by kernel_rfl) (fun ch_ a_ w_ q_ => (fun ch_ a_ w_ q_ => hnp ch_ a_ w_ (hp34 ch_ a_ w_ q_)) ch_ a_ w_ (hp58 ch_ a_ w_ q_)) (Sg.g0 (Sx.of [] (FM.le.refl _) HS82)) (fun w_ hw_ => by obtain ⟨g_, hl_, hS_⟩ := hw_.st; exact run_load rfl Try.underlying86 rfl (by kernel_rfl : _ = Value.pointer (some ⟨b69, of70 + (i44 : Int).toNat * 1, none⟩)) ((hc68 hl_ hS_) 0 (by decide))) ?_
        refine takeG [4, 5] (n := 6) (fuel := 4) (l' := #[true, true, true, true, true, true, false, false, false, false]) (a' := ⟨#[.slice (some ⟨b69, of70, none⟩) a1.length c3, .slice (some ⟨b75, of76, none⟩) b5.length c7, undef, undef, (j43 0), .int .i64 i44, .slice (some ⟨b69, of70, none⟩) a1.length c3, .int .i64 (a1.length : Int), .slice (some ⟨b75, of76, none⟩) b5.length c7, .int .i64 (b5.length : Int), .bool false, undef, undef, undef, undef, undef, .slice (some ⟨b69, of70, none⟩) a1.length c3, .int .i64 (a1.length : Int), .int .i64 (w64 ((a1.length : Int) - 1)), .int .i64 i44, .bool true, (j43 3), (j43 4), .slice (some ⟨b69, of70, none⟩) a1.length c3, .int .i64 i44, .pointer (some ⟨b69, of70 + (i44 : Int).toNat * 1, none⟩), .int .u32 (rd a1 i44), .slice (some ⟨b75, of76, none⟩) b5.length c7, .int .i64 i44, .pointer (some ⟨b75, of76 + (i44 : Int).toNat * 1, none⟩), .int .u32 (rd b5 i44), .bool true, .slice (some ⟨b69, of70, none⟩) a1.length c3, .int .i64 i44, .pointer (some ⟨b69, of70 + (i44 : Int).toNat * 1, none⟩), .int .u32 (rd a1 i44), .slice (some ⟨b75, of76, none⟩) b5.length c7, .int .i64 i44, (j43 20), (j43 21), (j43 22)], []⟩) rfl (by kernel_rfl) (by kernel_rfl) (by kernel_rfl) (fun ch_ a_ w_ q_ => (fun ch_ a_ w_ q_ => hnp ch_ a_ w_ (hp34 ch_ a_ w_ q_)) ch_ a_ w_ (hp58 ch_ a_ w_ q_)) (Sg.g0 (Sx.of [] (FM.le.refl _) HS82)) ?_
        refine takeGQ 6 [] rfl (by kernel_rfl) (by kernel_rfl) (by kernel_rfl) (by kernel_rfl) (by kernel_rfl) (by kernel_rfl) (fun ch_ a_ w_ q_ => (fun ch_ a_ w_ q_ => hnp ch_ a_ w_ (hp34 ch_ a_ w_ q_)) ch_ a_ w_ (hp58 ch_ a_ w_ q_)) (Sg.g0 (Sx.of [] (FM.le.refl _) HS82)) (fun w_ hw_ => by obtain ⟨g_, hl_, hS_⟩ := hw_.st; exact run_index (sz := 1) rfl Try.underlying51 (by kernel_rfl) (by kernel_rfl : _ = Value.slice (some ⟨b75, of76, none⟩) b5.length c7) (by kernel_rfl : _ = Value.int .i64 i44) c64 c71 w_) ?_
        refine takeGQ 7 [] rfl (by kernel_rfl) (by kernel_rfl) (by kernel_rfl) (by kernel_rfl) (by kernel_rfl) (by kernel_rfl) (fun ch_ a_ w_ q_ => (fun ch_ a_ w_ q_ => hnp ch_ a_ w_ (hp34 ch_ a_ w_ q_)) ch_ a_ w_ (hp58 ch_ a_ w_ q_)) (Sg.g0 (Sx.of [] (FM.le.refl _) HS82)) (fun w_ hw_ => by obtain ⟨g_, hl_, hS_⟩ := hw_.st; exact run_load rfl Try.underlying86 rfl (by kernel_rfl : _ = Value.pointer (some ⟨b75, of76 + (i44 : Int).toNat * 1, none⟩)) ((hc74 hl_ hS_) 0 (by decide))) ?_
        have hq_ := bind_some h; clear h; obtain ⟨vt83, hc84, h⟩ := hq_
        refine takeGE 8 (by kernel_rfl) rfl (by kernel_rfl) (does_call (f := 52) (args := #[.int .u32 (rd a1 i44), .int .u32 (rd b5 i44)]) (by kernel_rfl) (cmp_Compare_uint32.calls k (rd a1 i44) (rd b5 i44) HS82 vt83 hc84) ?_)
        rintro _ W87 ⟨f85, rfl, L86, HS88⟩
        refine ⟨_, rfl, ?_⟩
        refine ⟨(Sg.g0 (Sx.of [] L86 HS88)), ?_⟩
        refine takeG [9] (n := 1) (fuel := 0) (l' := #[true, true, true, true, true, true, true, true, true, true]) (a' := ⟨#[.slice (some ⟨b69, of70, none⟩) a1.length c3, .slice (some ⟨b75, of76, none⟩) b5.length c7, undef, undef, .int .i64 vt83, .int .i64 i44, .slice (some ⟨b69, of70, none⟩) a1.length c3, .int .i64 (a1.length : Int), .slice (some ⟨b75, of76, none⟩) b5.length c7, .int .i64 (b5.length : Int), .bool false, undef, undef, undef, undef, undef, .slice (some ⟨b69, of70, none⟩) a1.length c3, .int .i64 (a1.length : Int), .int .i64 (w64 ((a1.length : Int) - 1)), .int .i64 i44, .bool true, (j43 3), (j43 4), .slice (some ⟨b69, of70, none⟩) a1.length c3, .int .i64 i44, .pointer (some ⟨b69, of70 + (i44 : Int).toNat * 1, none⟩), .int .u32 (rd a1 i44), .slice (some ⟨b75, of76, none⟩) b5.length c7, .int .i64 i44, .pointer (some ⟨b75, of76 + (i44 : Int).toNat * 1, none⟩), .int .u32 (rd b5 i44), .bool true, .slice (some ⟨b69, of70, none⟩) a1.length c3, .int .i64 i44, .pointer (some ⟨b69, of70 + (i44 : Int).toNat * 1, none⟩), .int .u32 (rd a1 i44), .slice (some ⟨b75, of76, none⟩) b5.length c7, .int .i64 i44, .pointer (some ⟨b75, of76 + (i44 : Int).toNat * 1, none⟩), .int .u32 (rd b5 i44), .int .i64 vt83], []⟩) rfl (by kernel_rfl) (by kernel_rfl) (by kernel_rfl) (fun ch_ a_ w_ q_ => (fun ch_ a_ w_ q_ => hnp ch_ a_ w_ (hp34 ch_ a_ w_ q_)) ch_ a_ w_ (hp58 ch_ a_ w_ q_)) (Sg.g0 (Sx.of [] L86 HS88)) ?_
        refine doneG (by kernel_rfl) ?_ _
        refine hK80 _ _ ?_
        refine wp_ret ?_
        refine hr56 _ _ ?_
        refine hr32 _ _ ?_
        refine hret _ _ ?_
        refine ends_still (v := Value.int .i64 vt83) (by kernel_rfl) (by kernel_rfl) ?_
        replace h := JR96 _ h
        injection h with h
        subst h
        exact ⟨f85, rfl, (L40.trans L86), HS88⟩
      · have c78 : ¬ ((rd a1 i44) ≠ (rd b5 i44)) := c78
        refine wpRwI 31 (x := ((rd a1 i44) != (rd b5 i44))) (v := false) (by kernel_rfl) (bne_eq_false_iff_eq.mpr (Decidable.of_not_not c78)) ?_
        refine condF (by kernel_rfl) ?_
        refine wp_skip ?_
        refine hn55 _ _ ?_
        refine hK52 _ _ ?_
        refine wp_region_lit ?_
        refine seqS3 (a' := ⟨#[.slice (some ⟨b69, of70, none⟩) a1.length c3, .slice (some ⟨b75, of76, none⟩) b5.length c7, undef, undef, (j43 0), .int .i64 (w64 (i44 - 1)), .slice (some ⟨b69, of70, none⟩) a1.length c3, .int .i64 (a1.length : Int), .slice (some ⟨b75, of76, none⟩) b5.length c7, .int .i64 (b5.length : Int), .bool false, undef, undef, undef, undef, undef, .slice (some ⟨b69, of70, none⟩) a1.length c3, .int .i64 (a1.length : Int), .int .i64 (w64 ((a1.length : Int) - 1)), .int .i64 i44, .bool true, .int .i64 i44, .int .i64 (w64 (i44 - 1)), .slice (some ⟨b69, of70, none⟩) a1.length c3, .int .i64 i44, .pointer (some ⟨b69, of70 + (i44 : Int).toNat * 1, none⟩), .int .u32 (rd a1 i44), .slice (some ⟨b75, of76, none⟩) b5.length c7, .int .i64 i44, .pointer (some ⟨b75, of76 + (i44 : Int).toNat * 1, none⟩), .int .u32 (rd b5 i44), .bool false, (j43 14), (j43 15), (j43 16), (j43 17), (j43 18), (j43 19), (j43 20), (j43 21), (j43 22)], []⟩) (by kernel_rfl) ?_
        refine wpList_nil ?_
        refine hK37 n38 _ _ (Nat.lt_succ_self _) ?_
        exact ⟨f39, (w64 (i44 - 1)), (fun i_ => [(j43 0), Value.int .i64 i44, Value.bool true, Value.int .i64 i44, Value.int .i64 (w64 (i44 - 1)), Value.slice (some ⟨b69, of70, none⟩) a1.length c3, Value.int .i64 i44, Value.pointer (some ⟨b69, of70 + (i44 : Int).toNat * 1, none⟩), Value.int .u32 (rd a1 i44), Value.slice (some ⟨b75, of76, none⟩) b5.length c7, Value.int .i64 i44, Value.pointer (some ⟨b75, of76 + (i44 : Int).toNat * 1, none⟩), Value.int .u32 (rd b5 i44), Value.bool false, (j43 14), (j43 15), (j43 16), (j43 17), (j43 18), (j43 19), (j43 20), (j43 21), (j43 22)].getD i_ undef), L40, HS63, h, (by kernel_rfl)⟩
    · have c50 : ¬ (i44 ≥ 0) := c50
      refine wpRwI 20 (x := (decide (i44 ≥ 0))) (v := false) (by kernel_rfl) (decide_eq_false c50) ?_
      refine condF (by kernel_rfl) ?_
      refine wp_exit ?_
      refine hx30 _ _ ?_
      exact J95 f39 (fun i_ => [(j43 0), Value.int .i64 i44, Value.int .i64 i44, Value.bool false, (j43 3), (j43 4), (j43 5), (j43 6), (j43 7), (j43 8), (j43 9), (j43 10), (j43 11), (j43 12), (j43 13), (j43 14), (j43 15), (j43 16), (j43 17), (j43 18), (j43 19), (j43 20), (j43 21), (j43 22)].getD i_ undef) W41 _ L40 h HS42 (by kernel_rfl)

set_option maxRecDepth 100000 in
set_option maxHeartbeats 4000000 in
theorem big_Cmp.calls (k : Nat) (A2 : Option Addr) (c3 : Nat) (A6 : Option Addr) (c7 : Nat) (a1 : S_Int) (b5 : S_Int) {t w : World} {f : FM} {H : List Seg} (HS : St t w f (H)) (HR4 : SlR (tInt .u32) f A2 c3 a1.mag) (HR8 : SlR (tInt .u32) f A6 c7 b5.mag) (r1 : Int) (h : big_Cmp k a1 b5 = some r1) :
    Calls Try.prog 22 #[.agg #[.bool a1.neg, .slice A2 a1.mag.length c3], .agg #[.bool b5.neg, .slice A6 b5.mag.length c7]] w (fun e w' => ∃ (g : FM), e = .returned (Value.int .i64 r1) ∧ FM.le f g ∧ St t w' g (H)) := by
  unfold big_Cmp at h
  refine enter Try.func22 rfl (tm := #[.agg #[.bool a1.neg, .slice A2 a1.mag.length c3], .agg #[.bool b5.neg, .slice A6 b5.mag.length c7], undef, undef, undef, undef, undef, undef, undef, undef, undef, undef, undef, undef, undef, undef, undef, undef, undef, undef, undef, undef, undef, undef, undef, undef, undef, undef, undef]) (by kernel_rfl) ?_
  intro B hret hnor hnp
  refine wp_seq_k (fun K9 hK10 => ?_)
  refine wp_region_lit ?_
  refine seqK rfl (does_box (cs := #[.bool a1.neg, .slice A2 a1.mag.length c3]) rfl (by kernel_rfl : _ = Value.agg #[.bool a1.neg, .slice A2 a1.mag.length c3]) rfl HS ?_)
  intro b11 W12 HS13
  refine seqK rfl (does_box (cs := #[.bool b5.neg, .slice A6 b5.mag.length c7]) rfl (by kernel_rfl : _ = Value.agg #[.bool b5.neg, .slice A6 b5.mag.length c7]) rfl HS13 ?_)
  intro b15 W16 HS17
  refine seqS1 (a' := ⟨#[.agg #[.bool a1.neg, .slice A2 a1.mag.length c3], .agg #[.bool b5.neg, .slice A6 b5.mag.length c7], .pointer (some ⟨b11, 0, none⟩), .pointer (some ⟨b15, 0, none⟩), .int .i64 0, undef, undef, undef, undef, undef, undef, undef, undef, undef, undef, undef, undef, undef, undef, undef, undef, undef, undef, undef, undef, undef, undef, undef, undef], []⟩) (by kernel_rfl) ?_
  refine wpList_nil ?_
  refine hK10 _ _ ?_
  refine wp_seq_k (fun K19 hK20 => ?_)
  refine blockK (fun B21 hx22 hn23 hr24 ho25 hp26 => ?_)
  refine wp_seq_k (fun K28 hK29 => ?_)
  refine wp_region_lit ?_
  refine seqL1 (by kernel_rfl) ?_
  refine seqK rfl (does_run (run_load rfl Try.underlying4 rfl (by kernel_rfl : _ = Value.pointer (some ⟨b11, 0, none⟩)) (HS17.u1.cell 0)) ?_)
  refine seqL1 (by kernel_rfl) ?_
  refine seqK rfl (does_run (run_load rfl Try.underlying4 rfl (by kernel_rfl : _ = Value.pointer (some ⟨b15, 0, none⟩)) (HS17.cell 0)) ?_)
  refine seqS2 (a' := ⟨#[.agg #[.bool a1.neg, .slice A2 a1.mag.length c3], .agg #[.bool b5.neg, .slice A6 b5.mag.length c7], .pointer (some ⟨b11, 0, none⟩), .pointer (some ⟨b15, 0, none⟩), .int .i64 0, .bool (a1.neg != b5.neg), .pointer (some ⟨b11, 0, none⟩), .bool a1.neg, .pointer (some ⟨b15, 0, none⟩), .bool b5.neg, .bool (a1.neg != b5.neg), undef, undef, undef, undef, undef, undef, undef, undef, undef, undef, undef, undef, undef, undef, undef, undef, undef, undef], []⟩) (by kernel_rfl) ?_
  refine wpList_nil ?_
  refine hK29 _ _ ?_
  have hq_ := ite_some h; clear h; rcases hq_ with ⟨c31, h⟩ | ⟨c31, h⟩
  · have c31 : (a1.neg != b5.neg) = true := c31
    refine wpRwI 5 (x := (a1.neg != b5.neg)) (v := true) (by kernel_rfl) c31 ?_
    refine wpRwI 10 (x := (a1.neg != b5.neg)) (v := true) (by kernel_rfl) c31 ?_
    refine condT (by kernel_rfl) ?_
    refine wp_seq_k (fun K32 hK33 => ?_)
    refine heldG (S := Sg t f ([(b15, .cells #[.bool b5.neg, .slice A6 b5.mag.length c7] 53 (0, 0))] :: [(b11, .cells #[.bool a1.neg, .slice A2 a1.mag.length c3] 53 (0, 0))] :: H) []) (n := 6) (by kernel_rfl) rfl HS17 ?_
    intro W34 HS35
    refine takeGQ 0 [] rfl (by kernel_rfl) (by kernel_rfl) (by kernel_rfl) (by kernel_rfl) (by kernel_rfl) (by kernel_rfl) (fun ch_ a_ w_ q_ => hnp ch_ a_ w_ (hp26 ch_ a_ w_ q_)) (Sg.g0 (Sx.of [] (FM.le.refl _) HS35)) (fun w_ hw_ => by obtain ⟨g_, hl_, hS_⟩ := hw_.st; exact run_loadN (n := 2) rfl Try.underlying53 rfl (by kernel_rfl) (by kernel_rfl : _ = Value.pointer (some ⟨b11, 0, none⟩)) (cs := [.bool a1.neg, .slice A2 a1.mag.length c3]) rfl (hS_.u1.cells 0 2 _ rfl)) ?_
    refine takeGQ 2 [] rfl (by kernel_rfl) (by kernel_rfl) (by kernel_rfl) (by kernel_rfl) (by kernel_rfl) (by kernel_rfl) (fun ch_ a_ w_ q_ => hnp ch_ a_ w_ (hp26 ch_ a_ w_ q_)) (Sg.g0 (Sx.of [] (FM.le.refl _) HS35)) (fun w_ hw_ => by obtain ⟨g_, hl_, hS_⟩ := hw_.st; exact run_loadN (n := 2) rfl Try.underlying53 rfl (by kernel_rfl) (by kernel_rfl : _ = Value.pointer (some ⟨b15, 0, none⟩)) (cs := [.bool b5.neg, .slice A6 b5.mag.length c7]) rfl (hS_.cells 0 2 _ rfl)) ?_
    have hq_ := bind_some h; clear h; obtain ⟨vt36, hc37, h⟩ := hq_
    refine takeGE 1 (by kernel_rfl) rfl (by kernel_rfl) (does_call (f := 40) (args := #[.agg #[.bool a1.neg, .slice A2 a1.mag.length c3]]) (by kernel_rfl) (big_Sign.calls k A2 c3 a1 HS35 HR4 vt36 hc37) ?_)
    rintro _ W40 ⟨f38, rfl, L39, HS41⟩
    refine ⟨_, rfl, ?_⟩
    refine ⟨(Sg.g0 (Sx.of [] L39 HS41)), ?_⟩
    have hq_ := bind_some h; clear h; obtain ⟨vt42, hc43, h⟩ := hq_
    refine takeGE 3 (by kernel_rfl) rfl (by kernel_rfl) (does_call (f := 40) (args := #[.agg #[.bool b5.neg, .slice A6 b5.mag.length c7]]) (by kernel_rfl) (big_Sign.calls k A6 c7 b5 HS41 (HR8.mono L39) vt42 hc43) ?_)
    rintro _ W46 ⟨f44, rfl, L45, HS47⟩
    refine ⟨_, rfl, ?_⟩
    refine ⟨(Sg.g0 (Sx.of [] (L39.trans L45) HS47)), ?_⟩
    have hq_ := bind_some h; clear h; obtain ⟨vt48, hc49, h⟩ := hq_
    refine takeGE 4 (by kernel_rfl) rfl (by kernel_rfl) (does_call (f := 39) (args := #[.int .i64 vt36, .int .i64 vt42]) (by kernel_rfl) (cmp_Compare_int.calls k vt36 vt42 HS47 vt48 hc49) ?_)
    rintro _ W52 ⟨f50, rfl, L51, HS53⟩
    refine ⟨_, rfl, ?_⟩
    refine ⟨(Sg.g0 (Sx.of [] (L39.trans (L45.trans L51)) HS53)), ?_⟩
    refine takeG [5] (n := 1) (fuel := 0) (l' := #[true, true, true, true, true, true]) (a' := ⟨#[.agg #[.bool a1.neg, .slice A2 a1.mag.length c3], .agg #[.bool b5.neg, .slice A6 b5.mag.length c7], .pointer (some ⟨b11, 0, none⟩), .pointer (some ⟨b15, 0, none⟩), .int .i64 vt48, .bool true, .pointer (some ⟨b11, 0, none⟩), .bool a1.neg, .pointer (some ⟨b15, 0, none⟩), .bool b5.neg, .bool true, .agg #[.bool a1.neg, .slice A2 a1.mag.length c3], .int .i64 vt36, .agg #[.bool b5.neg, .slice A6 b5.mag.length c7], .int .i64 vt42, .int .i64 vt48, undef, undef, undef, undef, undef, undef, undef, undef, undef, undef, undef, undef, undef], []⟩) rfl (by kernel_rfl) (by kernel_rfl) (by kernel_rfl) (fun ch_ a_ w_ q_ => hnp ch_ a_ w_ (hp26 ch_ a_ w_ q_)) (Sg.g0 (Sx.of [] (L39.trans (L45.trans L51)) HS53)) ?_
    refine doneG (by kernel_rfl) ?_ _
    refine hK33 _ _ ?_
    refine wp_ret ?_
    refine hr24 _ _ ?_
    refine hret _ _ ?_
    refine ends_still (v := Value.int .i64 vt48) (by kernel_rfl) (by kernel_rfl) ?_
    have HS74 := HS53.drop
    have HS75 := HS74.drop
    injection h with h
    subst h
    exact ⟨f50, rfl, (L39.trans (L45.trans L51)), HS75⟩
  · have c31 : ¬ ((a1.neg != b5.neg) = true) := c31
    refine wpRwI 5 (x := (a1.neg != b5.neg)) (v := false) (by kernel_rfl) (Bool.eq_false_iff.mpr c31) ?_
    refine wpRwI 10 (x := (a1.neg != b5.neg)) (v := false) (by kernel_rfl) (Bool.eq_false_iff.mpr c31) ?_
    refine condF (by kernel_rfl) ?_
    refine wp_seq_k (fun K54 hK55 => ?_)
    refine wp_region_lit ?_
    refine seqL1 (by kernel_rfl) ?_
    refine seqK rfl (does_run (run_load rfl Try.underlying4 rfl (by kernel_rfl : _ = Value.pointer (some ⟨b11, 0, none⟩)) (HS17.u1.cell 0)) ?_)
    refine seqS1 (a' := ⟨#[.agg #[.bool a1.neg, .slice A2 a1.mag.length c3], .agg #[.bool b5.neg, .slice A6 b5.mag.length c7], .pointer (some ⟨b11, 0, none⟩), .pointer (some ⟨b15, 0, none⟩), .int .i64 0, .bool false, .pointer (some ⟨b11, 0, none⟩), .bool a1.neg, .pointer (some ⟨b15, 0, none⟩), .bool b5.neg, .bool false, undef, undef, undef, undef, undef, .bool a1.neg, .pointer (some ⟨b11, 0, none⟩), .bool a1.neg, undef, undef, undef, undef, undef, undef, undef, undef, undef, undef], []⟩) (by kernel_rfl) ?_
    refine wpList_nil ?_
    refine hK55 _ _ ?_
    have hq_ := ite_some h; clear h; rcases hq_ with ⟨c57, h⟩ | ⟨c57, h⟩
    · have c57 : a1.neg = true := c57
      refine wpRwI 7 (x := a1.neg) (v := true) (by kernel_rfl) c57 ?_
      refine wpRwI 16 (x := a1.neg) (v := true) (by kernel_rfl) c57 ?_
      refine wpRwI 18 (x := a1.neg) (v := true) (by kernel_rfl) c57 ?_
      refine condT (by kernel_rfl) ?_
      refine wp_seq_k (fun K58 hK59 => ?_)
      refine wp_region_lit ?_
      refine seqL1 (by kernel_rfl) ?_
      refine seqK rfl (does_run (run_load rfl Try.underlying51 rfl (by kernel_rfl : _ = Value.pointer (some ⟨b15, 1, none⟩)) (HS17.cell 1)) ?_)
      refine seqL1 (by kernel_rfl) ?_
      refine seqK rfl (does_run (run_load rfl Try.underlying51 rfl (by kernel_rfl : _ = Value.pointer (some ⟨b11, 1, none⟩)) (HS17.u1.cell 1)) ?_)
      have hq_ := bind_some h; clear h; obtain ⟨vt60, hc61, h⟩ := hq_
      refine seqK rfl (does_call (f := 41) (args := #[.slice A6 b5.mag.length c7, .slice A2 a1.mag.length c3]) (by kernel_rfl) (big_cmpMag.calls k A6 c7 A2 c3 b5.mag a1.mag HS17 HR8 HR4 vt60 hc61) ?_)
      rintro _ W64 ⟨f62, rfl, L63, HS65⟩
      refine ⟨_, rfl, ?_⟩
      refine seqS1 (a' := ⟨#[.agg #[.bool a1.neg, .slice A2 a1.mag.length c3], .agg #[.bool b5.neg, .slice A6 b5.mag.length c7], .pointer (some ⟨b11, 0, none⟩), .pointer (some ⟨b15, 0, none⟩), .int .i64 vt60, .bool false, .pointer (some ⟨b11, 0, none⟩), .bool true, .pointer (some ⟨b15, 0, none⟩), .bool b5.neg, .bool false, undef, undef, undef, undef, undef, .bool true, .pointer (some ⟨b11, 0, none⟩), .bool true, .pointer (some ⟨b15, 1, none⟩), .slice A6 b5.mag.length c7, .pointer (some ⟨b11, 1, none⟩), .slice A2 a1.mag.length c3, .int .i64 vt60, undef, undef, undef, undef, undef], []⟩) (by kernel_rfl) ?_
      refine wpList_nil ?_
      refine hK59 _ _ ?_
      refine wp_ret ?_
      refine hr24 _ _ ?_
      refine hret _ _ ?_
      refine ends_still (v := Value.int .i64 vt60) (by kernel_rfl) (by kernel_rfl) ?_
      have HS76 := HS65.drop
      have HS77 := HS76.drop
      injection h with h
      subst h
      exact ⟨f62, rfl, L63, HS77⟩
    · have c57 : ¬ (a1.neg = true) := c57
      refine wpRwI 7 (x := a1.neg) (v := false) (by kernel_rfl) (Bool.eq_false_iff.mpr c57) ?_
      refine wpRwI 16 (x := a1.neg) (v := false) (by kernel_rfl) (Bool.eq_false_iff.mpr c57) ?_
      refine wpRwI 18 (x := a1.neg) (v := false) (by kernel_rfl) (Bool.eq_false_iff.mpr c57) ?_
      refine condF (by kernel_rfl) ?_
      refine wp_skip ?_
      refine hn23 _ _ ?_
      refine hK20 _ _ ?_
      refine wp_seq_k (fun K66 hK67 => ?_)
      refine wp_region_lit ?_
      refine seqL1 (by kernel_rfl) ?_
      refine seqK rfl (does_run (run_load rfl Try.underlying51 rfl (by kernel_rfl : _ = Value.pointer (some ⟨b11, 1, none⟩)) (HS17.u1.cell 1)) ?_)
      refine seqL1 (by kernel_rfl) ?_
      refine seqK rfl (does_run (run_load rfl Try.underlying51 rfl (by kernel_rfl : _ = Value.pointer (some ⟨b15, 1, none⟩)) (HS17.cell 1)) ?_)
      have hq_ := bind_some h; clear h; obtain ⟨vt68, hc69, h⟩ := hq_
      refine seqK rfl (does_call (f := 41) (args := #[.slice A2 a1.mag.length c3, .slice A6 b5.mag.length c7]) (by kernel_rfl) (big_cmpMag.calls k A2 c3 A6 c7 a1.mag b5.mag HS17 HR4 HR8 vt68 hc69) ?_)
      rintro _ W72 ⟨f70, rfl, L71, HS73⟩
      refine ⟨_, rfl, ?_⟩
      refine seqS1 (a' := ⟨#[.agg #[.bool a1.neg, .slice A2 a1.mag.length c3], .agg #[.bool b5.neg, .slice A6 b5.mag.length c7], .pointer (some ⟨b11, 0, none⟩), .pointer (some ⟨b15, 0, none⟩), .int .i64 vt68, .bool false, .pointer (some ⟨b11, 0, none⟩), .bool false, .pointer (some ⟨b15, 0, none⟩), .bool b5.neg, .bool false, undef, undef, undef, undef, undef, .bool false, .pointer (some ⟨b11, 0, none⟩), .bool false, undef, undef, undef, undef, undef, .pointer (some ⟨b11, 1, none⟩), .slice A2 a1.mag.length c3, .pointer (some ⟨b15, 1, none⟩), .slice A6 b5.mag.length c7, .int .i64 vt68], []⟩) (by kernel_rfl) ?_
      refine wpList_nil ?_
      refine hK67 _ _ ?_
      refine wp_ret ?_
      refine hret _ _ ?_
      refine ends_still (v := Value.int .i64 vt68) (by kernel_rfl) (by kernel_rfl) ?_
      have HS78 := HS73.drop
      have HS79 := HS78.drop
      injection h with h
      subst h
      exact ⟨f70, rfl, L71, HS79⟩

end Go.Sp.P6
