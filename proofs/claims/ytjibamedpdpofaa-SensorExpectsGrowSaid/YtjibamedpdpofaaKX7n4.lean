import Derived.Test.YtjibamedpdpofaaProg
import Derived.Test.YtjibamedpdpofaaSpMore
import Derived.Test.YtjibamedpdpofaaFX7
import Derived.Test.YtjibamedpdpofaaKX7n0
import Derived.Test.YtjibamedpdpofaaKX7n1
import Derived.Test.YtjibamedpdpofaaKX7n2
import Derived.Test.YtjibamedpdpofaaKX7n3
namespace Go.Sp.X7
open Go Go.Sp Go.Proofs
set_option linter.unusedVariables false
attribute [local irreducible] wpList AnyL Code.wp Calls Does
set_option maxRecDepth 100000 in
set_option maxHeartbeats 4000000 in
theorem sensor_Bleed.calls (k : Nat) (A2 : Option Addr) (c3 : Nat) (A5 : Option Addr) (c6 : Nat) (A8 : Option Addr) (c9 : Nat) (A12 : Option Addr) (c13 : Nat) (s1 : S_Sensor) (q11 : List Int) {t w : World} {f : FM} {H : List Seg} (HS : St t w f (H)) (HR4 : SlR (tInt .i64) f A2 c3 s1.Bias) (HR7 : SlR (tInt .i64) f A5 c6 s1.Dark) (HR10 : SlR (tInt .i64) f A8 c9 s1.Flat) (HR14 : SlR (tInt .i64) f A12 c13 q11) (r1 : List Int) (r2 : Int) (r3 : Int) (h : sensor_Bleed k s1 q11 = some (r1, r2, r3)) :
    Calls Try.prog 21 #[.agg #[.int .i64 s1.W, .int .i64 s1.H, .slice A2 s1.Bias.length c3, .slice A5 s1.Dark.length c6, .slice A8 s1.Flat.length c9, .int .i64 s1.Full, .int .i64 s1.Gain, .int .i64 s1.Noise], .slice A12 q11.length c13] w (fun e w' => ∃ (g : FM) (A557 : Option Addr) (c558 : Nat) (s559 : Seg), e = .returned (Value.tuple #[.slice A557 r1.length c558, .int .i64 r2, .int .i64 r3]) ∧ FM.le f g ∧ St t w' g (s559 :: H) ∧ Own (tInt .i64) 22 g A557 c558 s559 r1) := by
  unfold sensor_Bleed at h
  refine enter Try.func21 rfl (tm := #[.agg #[.int .i64 s1.W, .int .i64 s1.H, .slice A2 s1.Bias.length c3, .slice A5 s1.Dark.length c6, .slice A8 s1.Flat.length c9, .int .i64 s1.Full, .int .i64 s1.Gain, .int .i64 s1.Noise], .slice A12 q11.length c13, undef, undef, undef, undef, undef, undef, undef, undef, undef, undef, undef, undef, undef, undef, undef, undef, undef, undef, undef, undef, undef, undef, undef, undef, undef, undef, undef, undef, undef, undef, undef, undef, undef, undef, undef, undef, undef, undef, undef, undef, undef, undef, undef, undef, undef, undef, undef, undef, undef, undef, undef, undef, undef, undef, undef, undef, undef, undef, undef, undef, undef, undef, undef, undef, undef, undef, undef, undef, undef, undef, undef, undef, undef, undef, undef, undef, undef, undef, undef]) (by kernel_rfl) ?_
  intro B hret hnor hnp
  refine wp_seq_k (fun K15 hK16 => ?_)
  refine wp_region_lit ?_
  refine seqK rfl (does_box (cs := #[.int .i64 s1.W, .int .i64 s1.H, .slice A2 s1.Bias.length c3, .slice A5 s1.Dark.length c6, .slice A8 s1.Flat.length c9, .int .i64 s1.Full, .int .i64 s1.Gain, .int .i64 s1.Noise]) rfl (by kernel_rfl : _ = Value.agg #[.int .i64 s1.W, .int .i64 s1.H, .slice A2 s1.Bias.length c3, .slice A5 s1.Dark.length c6, .slice A8 s1.Flat.length c9, .int .i64 s1.Full, .int .i64 s1.Gain, .int .i64 s1.Noise]) rfl HS ?_)
  intro b17 W18 HS19
  refine seqK rfl (does_box (cs := #[.slice A12 q11.length c13]) rfl (by kernel_rfl : _ = Value.slice A12 q11.length c13) rfl HS19 ?_)
  intro b21 W22 HS23
  refine seqS3 (a' := ⟨#[.agg #[.int .i64 s1.W, .int .i64 s1.H, .slice A2 s1.Bias.length c3, .slice A5 s1.Dark.length c6, .slice A8 s1.Flat.length c9, .int .i64 s1.Full, .int .i64 s1.Gain, .int .i64 s1.Noise], .slice A12 q11.length c13, .pointer (some ⟨b17, 0, none⟩), .pointer (some ⟨b21, 0, none⟩), .slice none 0 0, .int .i64 0, .int .i64 0, undef, undef, undef, undef, undef, undef, undef, undef, undef, undef, undef, undef, undef, undef, undef, undef, undef, undef, undef, undef, undef, undef, undef, undef, undef, undef, undef, undef, undef, undef, undef, undef, undef, undef, undef, undef, undef, undef, undef, undef, undef, undef, undef, undef, undef, undef, undef, undef, undef, undef, undef, undef, undef, undef, undef, undef, undef, undef, undef, undef, undef, undef, undef, undef, undef, undef, undef, undef, undef, undef, undef, undef, undef, undef], []⟩) (by kernel_rfl) ?_
  refine wpList_nil ?_
  refine hK16 _ _ ?_
  refine wp_seq_k (fun K25 hK26 => ?_)
  refine wp_seq_k (fun K27 hK28 => ?_)
  refine wp_region_lit ?_
  refine seqK rfl (does_run (run_loadN (n := 8) rfl Try.underlying46 rfl (by kernel_rfl) (by kernel_rfl : _ = Value.pointer (some ⟨b17, 0, none⟩)) (cs := [.int .i64 s1.W, .int .i64 s1.H, .slice A2 s1.Bias.length c3, .slice A5 s1.Dark.length c6, .slice A8 s1.Flat.length c9, .int .i64 s1.Full, .int .i64 s1.Gain, .int .i64 s1.Noise]) rfl (HS23.u1.cells 0 8 _ rfl)) ?_)
  refine seqK rfl (does_run (run_load rfl Try.underlying48 rfl (by kernel_rfl : _ = Value.pointer (some ⟨b21, 0, none⟩)) (HS23.cell 0)) ?_)
  have hq_ := bind_some h; clear h; obtain ⟨vt29, hc30, h⟩ := hq_
  refine seqL1 (by kernel_rfl) ?_
  refine seqK rfl (does_call (f := 44) (args := #[.agg #[.int .i64 s1.W, .int .i64 s1.H, .slice A2 s1.Bias.length c3, .slice A5 s1.Dark.length c6, .slice A8 s1.Flat.length c9, .int .i64 s1.Full, .int .i64 s1.Gain, .int .i64 s1.Noise], .int .i64 (q11.length : Int)]) (by kernel_rfl) (sensor_sized.calls k A2 c3 A5 c6 A8 c9 s1 (q11.length : Int) HS23 HR4 HR7 HR10 vt29 hc30) ?_)
  rintro _ W33 ⟨f31, rfl, L32, HS34⟩
  refine ⟨_, rfl, ?_⟩
  refine seqS1 (a' := ⟨#[.agg #[.int .i64 s1.W, .int .i64 s1.H, .slice A2 s1.Bias.length c3, .slice A5 s1.Dark.length c6, .slice A8 s1.Flat.length c9, .int .i64 s1.Full, .int .i64 s1.Gain, .int .i64 s1.Noise], .slice A12 q11.length c13, .pointer (some ⟨b17, 0, none⟩), .pointer (some ⟨b21, 0, none⟩), .slice none 0 0, .int .i64 0, .int .i64 0, .int .i64 vt29, undef, undef, undef, undef, undef, undef, .agg #[.int .i64 s1.W, .int .i64 s1.H, .slice A2 s1.Bias.length c3, .slice A5 s1.Dark.length c6, .slice A8 s1.Flat.length c9, .int .i64 s1.Full, .int .i64 s1.Gain, .int .i64 s1.Noise], .slice A12 q11.length c13, .int .i64 (q11.length : Int), .int .i64 vt29, undef, undef, undef, undef, undef, undef, undef, undef, undef, undef, undef, undef, undef, undef, undef, undef, undef, undef, undef, undef, undef, undef, undef, undef, undef, undef, undef, undef, undef, undef, undef, undef, undef, undef, undef, undef, undef, undef, undef, undef, undef, undef, undef, undef, undef, undef, undef, undef, undef, undef, undef, undef, undef, undef, undef, undef, undef, undef, undef, undef, undef, undef, undef], []⟩) (by kernel_rfl) ?_
  refine wpList_nil ?_
  refine hK28 _ _ ?_
  refine wp_seq_k (fun K35 hK36 => ?_)
  refine wp_region_lit ?_
  refine seqS2 (a' := ⟨#[.agg #[.int .i64 s1.W, .int .i64 s1.H, .slice A2 s1.Bias.length c3, .slice A5 s1.Dark.length c6, .slice A8 s1.Flat.length c9, .int .i64 s1.Full, .int .i64 s1.Gain, .int .i64 s1.Noise], .slice A12 q11.length c13, .pointer (some ⟨b17, 0, none⟩), .pointer (some ⟨b21, 0, none⟩), .slice none 0 0, .int .i64 0, .int .i64 0, .int .i64 vt29, undef, undef, undef, undef, undef, undef, .agg #[.int .i64 s1.W, .int .i64 s1.H, .slice A2 s1.Bias.length c3, .slice A5 s1.Dark.length c6, .slice A8 s1.Flat.length c9, .int .i64 s1.Full, .int .i64 s1.Gain, .int .i64 s1.Noise], .slice A12 q11.length c13, .int .i64 (q11.length : Int), .int .i64 vt29, .int .i64 vt29, .bool (vt29 != 0), undef, undef, undef, undef, undef, undef, undef, undef, undef, undef, undef, undef, undef, undef, undef, undef, undef, undef, undef, undef, undef, undef, undef, undef, undef, undef, undef, undef, undef, undef, undef, undef, undef, undef, undef, undef, undef, undef, undef, undef, undef, undef, undef, undef, undef, undef, undef, undef, undef, undef, undef, undef, undef, undef, undef, undef, undef, undef, undef, undef, undef], []⟩) (by kernel_rfl) ?_
  refine wpList_nil ?_
  refine hK36 _ _ ?_
  have hq_ := ite_some h; clear h; rcases hq_ with ⟨c38, h⟩ | ⟨c38, h⟩
  · have c38 : vt29 ≠ 0 := c38
    refine wpRwI 19 (x := (vt29 != 0)) (v := true) (by kernel_rfl) (bne_iff_ne.mpr c38) ?_
    refine condT (by kernel_rfl) ?_
    refine wp_seq_k (fun K39 hK40 => ?_)
    refine wp_region_lit ?_
    refine seqS4 (a' := ⟨#[.agg #[.int .i64 s1.W, .int .i64 s1.H, .slice A2 s1.Bias.length c3, .slice A5 s1.Dark.length c6, .slice A8 s1.Flat.length c9, .int .i64 s1.Full, .int .i64 s1.Gain, .int .i64 s1.Noise], .slice A12 q11.length c13, .pointer (some ⟨b17, 0, none⟩), .pointer (some ⟨b21, 0, none⟩), .slice none 0 0, .int .i64 0, .int .i64 vt29, .int .i64 vt29, undef, undef, undef, undef, undef, undef, .agg #[.int .i64 s1.W, .int .i64 s1.H, .slice A2 s1.Bias.length c3, .slice A5 s1.Dark.length c6, .slice A8 s1.Flat.length c9, .int .i64 s1.Full, .int .i64 s1.Gain, .int .i64 s1.Noise], .slice A12 q11.length c13, .int .i64 (q11.length : Int), .int .i64 vt29, .int .i64 vt29, .bool true, .int .i64 vt29, undef, undef, undef, undef, undef, undef, undef, undef, undef, undef, undef, undef, undef, undef, undef, undef, undef, undef, undef, undef, undef, undef, undef, undef, undef, undef, undef, undef, undef, undef, undef, undef, undef, undef, undef, undef, undef, undef, undef, undef, undef, undef, undef, undef, undef, undef, undef, undef, undef, undef, undef, undef, undef, undef, undef, undef, undef, undef, undef, undef], []⟩) (by kernel_rfl) ?_
    refine wpList_nil ?_
    refine hK40 _ _ ?_
    refine wp_ret ?_
    refine hret _ _ ?_
    have HS538 := HS34.cons_nil
    refine ends_still (v := Value.tuple #[.slice none 0 0, .int .i64 0, .int .i64 vt29]) (by kernel_rfl) (by kernel_rfl) ?_
    have HS540 := HS538.u2
    have HS541 := HS540.u2
    have HS542 := HS541.drop
    have HS543 := HS542.drop
    injection h with h
    injection h with h0_ h
    injection h with h1_ h
    subst h0_ h1_ h
    exact ⟨f31, none, 0, [], rfl, L32, HS543, (Own.nil _)⟩
  · have c38 : ¬ (vt29 ≠ 0) := c38
    refine wpRwI 19 (x := (vt29 != 0)) (v := false) (by kernel_rfl) (bne_eq_false_iff_eq.mpr (Decidable.of_not_not c38)) ?_
    refine condF (by kernel_rfl) ?_
    refine wp_skip ?_
    refine hK26 _ _ ?_
    refine wp_seq_k (fun K41 hK42 => ?_)
    refine wp_seq_k (fun K43 hK44 => ?_)
    refine wp_region_lit ?_
    refine seqK rfl (does_run (run_load rfl Try.underlying48 rfl (by kernel_rfl : _ = Value.pointer (some ⟨b21, 0, none⟩)) (HS34.cell 0)) ?_)
    have hq_ := bind_some h; clear h; obtain ⟨vt45, hc46, h⟩ := hq_
    refine seqK rfl (does_call (f := 45) (args := #[.slice A12 q11.length c13, .int .i64 4294967296]) (by kernel_rfl) (sensor_outside_Quanta.calls k A12 c13 q11 4294967296 HS34 (HR14.mono L32) vt45 hc46) ?_)
    rintro _ W49 ⟨f47, rfl, L48, HS50⟩
    refine ⟨_, rfl, ?_⟩
    refine wpList_nil ?_
    refine hK44 _ _ ?_
    have hq_ := ite_some h; clear h; rcases hq_ with ⟨c52, h⟩ | ⟨c52, h⟩
    · have c52 : vt45 = true := c52
      refine wpRwI 22 (x := vt45) (v := true) (by kernel_rfl) c52 ?_
      refine condT (by kernel_rfl) ?_
      refine wp_seq_k (fun K53 hK54 => ?_)
      refine wp_region_lit ?_
      refine seqS3 (a' := ⟨#[.agg #[.int .i64 s1.W, .int .i64 s1.H, .slice A2 s1.Bias.length c3, .slice A5 s1.Dark.length c6, .slice A8 s1.Flat.length c9, .int .i64 s1.Full, .int .i64 s1.Gain, .int .i64 s1.Noise], .slice A12 q11.length c13, .pointer (some ⟨b17, 0, none⟩), .pointer (some ⟨b21, 0, none⟩), .slice none 0 0, .int .i64 0, .int .i64 4, .int .i64 vt29, undef, undef, undef, undef, undef, undef, .agg #[.int .i64 s1.W, .int .i64 s1.H, .slice A2 s1.Bias.length c3, .slice A5 s1.Dark.length c6, .slice A8 s1.Flat.length c9, .int .i64 s1.Full, .int .i64 s1.Gain, .int .i64 s1.Noise], .slice A12 q11.length c13, .int .i64 (q11.length : Int), .int .i64 vt29, .int .i64 vt29, .bool false, undef, .slice A12 q11.length c13, .bool true, undef, undef, undef, undef, undef, undef, undef, undef, undef, undef, undef, undef, undef, undef, undef, undef, undef, undef, undef, undef, undef, undef, undef, undef, undef, undef, undef, undef, undef, undef, undef, undef, undef, undef, undef, undef, undef, undef, undef, undef, undef, undef, undef, undef, undef, undef, undef, undef, undef, undef, undef, undef, undef, undef, undef, undef, undef, undef], []⟩) (by kernel_rfl) ?_
      refine wpList_nil ?_
      refine hK54 _ _ ?_
      refine wp_ret ?_
      refine hret _ _ ?_
      have HS544 := HS50.cons_nil
      refine ends_still (v := Value.tuple #[.slice none 0 0, .int .i64 0, .int .i64 4]) (by kernel_rfl) (by kernel_rfl) ?_
      have HS546 := HS544.u2
      have HS547 := HS546.u2
      have HS548 := HS547.drop
      have HS549 := HS548.drop
      injection h with h
      injection h with h0_ h
      injection h with h1_ h
      subst h0_ h1_ h
      exact ⟨f47, none, 0, [], rfl, (L32.trans L48), HS549, (Own.nil _)⟩
    · have c52 : ¬ (vt45 = true) := c52
      refine wpRwI 22 (x := vt45) (v := false) (by kernel_rfl) (Bool.eq_false_iff.mpr c52) ?_
      refine condF (by kernel_rfl) ?_
      refine wp_skip ?_
      refine hK42 _ _ ?_
      refine wp_seq_k (fun K55 hK56 => ?_)
      refine wp_region_lit ?_
      refine seqK rfl (does_run (run_load rfl Try.underlying48 rfl (by kernel_rfl : _ = Value.pointer (some ⟨b21, 0, none⟩)) (HS50.cell 0)) ?_)
      have hq_ := guard_some h; clear h; obtain ⟨c57, h⟩ := hq_
      have c57 : 0 ≤ (q11.length : Int) := c57
      have hq_ := guard_some h; clear h; obtain ⟨c58, h⟩ := hq_
      have c58 : (q11.length : Int) * 8 ≤ 140737488355328 := c58
      refine seqL1 (by kernel_rfl) ?_
      refine seqK rfl (does_make (e := (tInt .i64)) (E := 22) (u := 0) (n := (q11.length : Int)) rfl (by kernel_rfl : _ = Value.int .i64 (q11.length : Int)) (by kernel_rfl : _ = Value.int .i64 (q11.length : Int)) Try.underlying48 inf22 c57 c58 (by omega) rfl HS50 ?_)
      intro b59 W60 s61 HS62 HO63
      refine seqS1 (a' := ⟨#[.agg #[.int .i64 s1.W, .int .i64 s1.H, .slice A2 s1.Bias.length c3, .slice A5 s1.Dark.length c6, .slice A8 s1.Flat.length c9, .int .i64 s1.Full, .int .i64 s1.Gain, .int .i64 s1.Noise], .slice A12 q11.length c13, .pointer (some ⟨b17, 0, none⟩), .pointer (some ⟨b21, 0, none⟩), .slice (some ⟨b59, 0, none⟩) (List.replicate ((q11.length : Int)).toNat (0 : Int)).length ((q11.length : Int)).toNat, .int .i64 0, .int .i64 0, .int .i64 vt29, undef, undef, undef, undef, undef, undef, .agg #[.int .i64 s1.W, .int .i64 s1.H, .slice A2 s1.Bias.length c3, .slice A5 s1.Dark.length c6, .slice A8 s1.Flat.length c9, .int .i64 s1.Full, .int .i64 s1.Gain, .int .i64 s1.Noise], .slice A12 q11.length c13, .int .i64 (q11.length : Int), .int .i64 vt29, .int .i64 vt29, .bool false, undef, .slice A12 q11.length c13, .bool false, .slice A12 q11.length c13, .int .i64 (q11.length : Int), .slice (some ⟨b59, 0, none⟩) (List.replicate ((q11.length : Int)).toNat (0 : Int)).length ((q11.length : Int)).toNat, undef, undef, undef, undef, undef, undef, undef, undef, undef, undef, undef, undef, undef, undef, undef, undef, undef, undef, undef, undef, undef, undef, undef, undef, undef, undef, undef, undef, undef, undef, undef, undef, undef, undef, undef, undef, undef, undef, undef, undef, undef, undef, undef, undef, undef, undef, undef, undef, undef, undef, undef, undef, undef, undef, undef], []⟩) (by kernel_rfl) ?_
      refine wpList_nil ?_
      refine hK56 _ _ ?_
      refine wp_seq_k (fun K65 hK66 => ?_)
      refine wp_seq_k (fun K67 hK68 => ?_)
      refine wp_region_lit ?_
      refine seqK rfl (does_run (run_load rfl Try.underlying48 rfl (by kernel_rfl : _ = Value.pointer (some ⟨b21, 0, none⟩)) (HS62.u1.cell 0)) ?_)
      refine seqS2 (a' := ⟨#[.agg #[.int .i64 s1.W, .int .i64 s1.H, .slice A2 s1.Bias.length c3, .slice A5 s1.Dark.length c6, .slice A8 s1.Flat.length c9, .int .i64 s1.Full, .int .i64 s1.Gain, .int .i64 s1.Noise], .slice A12 q11.length c13, .pointer (some ⟨b17, 0, none⟩), .pointer (some ⟨b21, 0, none⟩), .slice (some ⟨b59, 0, none⟩) (List.replicate ((q11.length : Int)).toNat (0 : Int)).length ((q11.length : Int)).toNat, .int .i64 0, .int .i64 0, .int .i64 vt29, undef, undef, undef, undef, undef, undef, .agg #[.int .i64 s1.W, .int .i64 s1.H, .slice A2 s1.Bias.length c3, .slice A5 s1.Dark.length c6, .slice A8 s1.Flat.length c9, .int .i64 s1.Full, .int .i64 s1.Gain, .int .i64 s1.Noise], .slice A12 q11.length c13, .int .i64 (q11.length : Int), .int .i64 vt29, .int .i64 vt29, .bool false, undef, .slice A12 q11.length c13, .bool false, .slice A12 q11.length c13, .int .i64 (q11.length : Int), .slice (some ⟨b59, 0, none⟩) (List.replicate ((q11.length : Int)).toNat (0 : Int)).length ((q11.length : Int)).toNat, .slice A12 q11.length c13, .int .i64 (q11.length : Int), .int .i64 0, undef, undef, undef, undef, undef, undef, undef, undef, undef, undef, undef, undef, undef, undef, undef, undef, undef, undef, undef, undef, undef, undef, undef, undef, undef, undef, undef, undef, undef, undef, undef, undef, undef, undef, undef, undef, undef, undef, undef, undef, undef, undef, undef, undef, undef, undef, undef, undef, undef, undef, undef, undef], []⟩) (by kernel_rfl) ?_
      refine wpList_nil ?_
      refine hK68 _ _ ?_
      refine blockK (fun B69 hx70 hn71 hr72 ho73 hp74 => ?_)
      have hq_ := bind_some h; clear h; obtain ⟨o116, hv170, h⟩ := hq_
      have J171 : ∀ (f161 : FM) (s167 : Seg) (out166 : List Int) (j165 : Nat → Value) (W163 : World) (a_ : Act), FM.le f47 f161 → some (out166) = some o116 → St t W163 f161 (s167 :: [(b21, .cells #[.slice A12 q11.length c13] 48 (0, 0))] :: [(b17, .cells #[.int .i64 s1.W, .int .i64 s1.H, .slice A2 s1.Bias.length c3, .slice A5 s1.Dark.length c6, .slice A8 s1.Flat.length c9, .int .i64 s1.Full, .int .i64 s1.Gain, .int .i64 s1.Noise] 46 (0, 0))] :: H) → Own (tInt .i64) 22 f161 (some ⟨b59, 0, none⟩) ((q11.length : Int)).toNat s167 out166 → out166.length = (List.replicate ((q11.length : Int)).toNat (0 : Int)).length → a_ = ⟨#[.agg #[.int .i64 s1.W, .int .i64 s1.H, .slice A2 s1.Bias.length c3, .slice A5 s1.Dark.length c6, .slice A8 s1.Flat.length c9, .int .i64 s1.Full, .int .i64 s1.Gain, .int .i64 s1.Noise], .slice A12 q11.length c13, .pointer (some ⟨b17, 0, none⟩), .pointer (some ⟨b21, 0, none⟩), .slice (some ⟨b59, 0, none⟩) out166.length ((q11.length : Int)).toNat, .int .i64 0, .int .i64 0, .int .i64 vt29, (j165 0), (j165 1), undef, undef, undef, undef, .agg #[.int .i64 s1.W, .int .i64 s1.H, .slice A2 s1.Bias.length c3, .slice A5 s1.Dark.length c6, .slice A8 s1.Flat.length c9, .int .i64 s1.Full, .int .i64 s1.Gain, .int .i64 s1.Noise], .slice A12 q11.length c13, .int .i64 (q11.length : Int), .int .i64 vt29, .int .i64 vt29, .bool false, undef, .slice A12 q11.length c13, .bool false, .slice A12 q11.length c13, .int .i64 (q11.length : Int), .slice (some ⟨b59, 0, none⟩) (List.replicate ((q11.length : Int)).toNat (0 : Int)).length ((q11.length : Int)).toNat, .slice A12 q11.length c13, .int .i64 (q11.length : Int), (j165 2), (j165 3), (j165 4), (j165 5), (j165 6), (j165 7), (j165 8), (j165 9), (j165 10), (j165 11), (j165 12), (j165 13), (j165 14), undef, undef, undef, undef, undef, undef, undef, undef, undef, undef, undef, undef, undef, undef, undef, undef, undef, undef, undef, undef, undef, undef, undef, undef, undef, undef, undef, undef, undef, undef, undef, undef, undef, undef, undef, undef, undef, undef, undef, undef], []⟩ → K65 a_ W163 := by
        intro f161 s167 out166 j165 W163 a_ L162 hj172 HS164 HO168 HL169 hfr_; subst hfr_
        injection hj172 with hj172; subst hj172; try dsimp only at h
        refine hK66 _ _ ?_
        refine wp_seq_k (fun K173 hK174 => ?_)
        refine wp_region_lit ?_
        refine seqL1 (by kernel_rfl) ?_
        refine seqK rfl (does_alloc (z := Value.nilFunc) (cs := #[.nilFunc]) rfl (by kernel_rfl) rfl HS164 ?_)
        intro b175 W176 HS177
        refine seqK rfl (does_store (n := 1) (vs := [.func (.func 46) #[] #[.pointer (some ⟨b21, 0, none⟩), .pointer (some ⟨b17, 0, none⟩)]]) (cs' := #[.func (.func 46) #[] #[.pointer (some ⟨b21, 0, none⟩), .pointer (some ⟨b17, 0, none⟩)]]) rfl (by kernel_rfl) (by kernel_rfl : _ = Value.pointer (some ⟨b175, 0, none⟩)) (by kernel_rfl : _ = Value.func (.func 46) #[] #[.pointer (some ⟨b21, 0, none⟩), .pointer (some ⟨b17, 0, none⟩)]) rfl rfl (by intro u_ hu_; simp only [List.mem_cons, List.not_mem_nil, or_false] at hu_; subst hu_; rfl) HS177 (Nat.le_of_ble_eq_true rfl) (by kernel_rfl) ?_)
        intro W179 HS180
        refine wpList_nil ?_
        refine hK174 _ _ ?_
        refine wp_seq_k (fun K181 hK182 => ?_)
        refine wp_seq_k (fun K183 hK184 => ?_)
        refine wp_region_lit ?_
        refine seqL1 (by kernel_rfl) ?_
        refine seqK rfl (does_run (run_load rfl Try.underlying3 rfl (by kernel_rfl : _ = Value.pointer (some ⟨b17, 0, none⟩)) (HS180.u3.cell 0)) ?_)
        refine seqS1 (a' := ⟨#[.agg #[.int .i64 s1.W, .int .i64 s1.H, .slice A2 s1.Bias.length c3, .slice A5 s1.Dark.length c6, .slice A8 s1.Flat.length c9, .int .i64 s1.Full, .int .i64 s1.Gain, .int .i64 s1.Noise], .slice A12 q11.length c13, .pointer (some ⟨b17, 0, none⟩), .pointer (some ⟨b21, 0, none⟩), .slice (some ⟨b59, 0, none⟩) out166.length ((q11.length : Int)).toNat, .int .i64 0, .int .i64 0, .int .i64 vt29, (j165 0), (j165 1), .pointer (some ⟨b175, 0, none⟩), undef, undef, undef, .agg #[.int .i64 s1.W, .int .i64 s1.H, .slice A2 s1.Bias.length c3, .slice A5 s1.Dark.length c6, .slice A8 s1.Flat.length c9, .int .i64 s1.Full, .int .i64 s1.Gain, .int .i64 s1.Noise], .slice A12 q11.length c13, .int .i64 (q11.length : Int), .int .i64 vt29, .int .i64 vt29, .bool false, undef, .slice A12 q11.length c13, .bool false, .slice A12 q11.length c13, .int .i64 (q11.length : Int), .slice (some ⟨b59, 0, none⟩) (List.replicate ((q11.length : Int)).toNat (0 : Int)).length ((q11.length : Int)).toNat, .slice A12 q11.length c13, .int .i64 (q11.length : Int), (j165 2), (j165 3), (j165 4), (j165 5), (j165 6), (j165 7), (j165 8), (j165 9), (j165 10), (j165 11), (j165 12), (j165 13), (j165 14), .func (.func 46) #[] #[.pointer (some ⟨b21, 0, none⟩), .pointer (some ⟨b17, 0, none⟩)], .pointer (some ⟨b17, 0, none⟩), .int .i64 s1.W, .int .i64 0, undef, undef, undef, undef, undef, undef, undef, undef, undef, undef, undef, undef, undef, undef, undef, undef, undef, undef, undef, undef, undef, undef, undef, undef, undef, undef, undef, undef, undef, undef, undef, undef, undef, undef, undef, undef], []⟩) (by kernel_rfl) ?_
        refine wpList_nil ?_
        refine hK184 _ _ ?_
        refine blockK (fun B185 hx186 hn187 hr188 ho189 hp190 => ?_)
        have hq_ := bind_some h; clear h; obtain ⟨o352, hv527, h⟩ := hq_
        have J528 : ∀ (f517 : FM) (s523 : Seg) (out522 : List Int) (lost526 : Int) (j521 : Nat → Value) (W519 : World) (a_ : Act), FM.le f161 f517 → some ((out522, lost526)) = some o352 → St t W519 f517 ([(b175, .cells #[.func (.func 46) #[] #[.pointer (some ⟨b21, 0, none⟩), .pointer (some ⟨b17, 0, none⟩)]] 76 (0, 0))] :: s523 :: [(b21, .cells #[.slice A12 q11.length c13] 48 (0, 0))] :: [(b17, .cells #[.int .i64 s1.W, .int .i64 s1.H, .slice A2 s1.Bias.length c3, .slice A5 s1.Dark.length c6, .slice A8 s1.Flat.length c9, .int .i64 s1.Full, .int .i64 s1.Gain, .int .i64 s1.Noise] 46 (0, 0))] :: H) → Own (tInt .i64) 22 f517 (some ⟨b59, 0, none⟩) ((q11.length : Int)).toNat s523 out522 → out522.length = out166.length → a_ = ⟨#[.agg #[.int .i64 s1.W, .int .i64 s1.H, .slice A2 s1.Bias.length c3, .slice A5 s1.Dark.length c6, .slice A8 s1.Flat.length c9, .int .i64 s1.Full, .int .i64 s1.Gain, .int .i64 s1.Noise], .slice A12 q11.length c13, .pointer (some ⟨b17, 0, none⟩), .pointer (some ⟨b21, 0, none⟩), .slice (some ⟨b59, 0, none⟩) out522.length ((q11.length : Int)).toNat, .int .i64 lost526, .int .i64 0, .int .i64 vt29, (j165 0), (j165 1), .pointer (some ⟨b175, 0, none⟩), (j521 0), (j521 1), (j521 2), .agg #[.int .i64 s1.W, .int .i64 s1.H, .slice A2 s1.Bias.length c3, .slice A5 s1.Dark.length c6, .slice A8 s1.Flat.length c9, .int .i64 s1.Full, .int .i64 s1.Gain, .int .i64 s1.Noise], .slice A12 q11.length c13, .int .i64 (q11.length : Int), .int .i64 vt29, .int .i64 vt29, .bool false, undef, .slice A12 q11.length c13, .bool false, .slice A12 q11.length c13, .int .i64 (q11.length : Int), .slice (some ⟨b59, 0, none⟩) (List.replicate ((q11.length : Int)).toNat (0 : Int)).length ((q11.length : Int)).toNat, .slice A12 q11.length c13, .int .i64 (q11.length : Int), (j165 2), (j165 3), (j165 4), (j165 5), (j165 6), (j165 7), (j165 8), (j165 9), (j165 10), (j165 11), (j165 12), (j165 13), (j165 14), .func (.func 46) #[] #[.pointer (some ⟨b21, 0, none⟩), .pointer (some ⟨b17, 0, none⟩)], .pointer (some ⟨b17, 0, none⟩), .int .i64 s1.W, (j521 3), (j521 4), (j521 5), (j521 6), (j521 7), (j521 8), (j521 9), (j521 10), (j521 11), (j521 12), (j521 13), (j521 14), (j521 15), (j521 16), (j521 17), (j521 18), (j521 19), (j521 20), (j521 21), (j521 22), (j521 23), (j521 24), (j521 25), (j521 26), (j521 27), (j521 28), (j521 29), (j521 30), (j521 31), (j521 32), (j521 33), (j521 34), (j521 35), (j521 36), (j521 37), undef, undef], []⟩ → K181 a_ W519 := by
          intro f517 s523 out522 lost526 j521 W519 a_ L518 hj529 HS520 HO524 HL525 hfr_; subst hfr_
          injection hj529 with hj529; subst hj529; try dsimp only at h
          refine hK182 _ _ ?_
          refine wp_seq_k (fun K536 hK537 => ?_)
          refine wp_region_lit ?_
          refine seqS5 (a' := ⟨#[.agg #[.int .i64 s1.W, .int .i64 s1.H, .slice A2 s1.Bias.length c3, .slice A5 s1.Dark.length c6, .slice A8 s1.Flat.length c9, .int .i64 s1.Full, .int .i64 s1.Gain, .int .i64 s1.Noise], .slice A12 q11.length c13, .pointer (some ⟨b17, 0, none⟩), .pointer (some ⟨b21, 0, none⟩), .slice (some ⟨b59, 0, none⟩) out522.length ((q11.length : Int)).toNat, .int .i64 lost526, .int .i64 0, .int .i64 vt29, (j165 0), (j165 1), .pointer (some ⟨b175, 0, none⟩), (j521 0), (j521 1), (j521 2), .agg #[.int .i64 s1.W, .int .i64 s1.H, .slice A2 s1.Bias.length c3, .slice A5 s1.Dark.length c6, .slice A8 s1.Flat.length c9, .int .i64 s1.Full, .int .i64 s1.Gain, .int .i64 s1.Noise], .slice A12 q11.length c13, .int .i64 (q11.length : Int), .int .i64 vt29, .int .i64 vt29, .bool false, undef, .slice A12 q11.length c13, .bool false, .slice A12 q11.length c13, .int .i64 (q11.length : Int), .slice (some ⟨b59, 0, none⟩) (List.replicate ((q11.length : Int)).toNat (0 : Int)).length ((q11.length : Int)).toNat, .slice A12 q11.length c13, .int .i64 (q11.length : Int), (j165 2), (j165 3), (j165 4), (j165 5), (j165 6), (j165 7), (j165 8), (j165 9), (j165 10), (j165 11), (j165 12), (j165 13), (j165 14), .func (.func 46) #[] #[.pointer (some ⟨b21, 0, none⟩), .pointer (some ⟨b17, 0, none⟩)], .pointer (some ⟨b17, 0, none⟩), .int .i64 s1.W, (j521 3), (j521 4), (j521 5), (j521 6), (j521 7), (j521 8), (j521 9), (j521 10), (j521 11), (j521 12), (j521 13), (j521 14), (j521 15), (j521 16), (j521 17), (j521 18), (j521 19), (j521 20), (j521 21), (j521 22), (j521 23), (j521 24), (j521 25), (j521 26), (j521 27), (j521 28), (j521 29), (j521 30), (j521 31), (j521 32), (j521 33), (j521 34), (j521 35), (j521 36), (j521 37), .slice (some ⟨b59, 0, none⟩) out522.length ((q11.length : Int)).toNat, .int .i64 lost526], []⟩) (by kernel_rfl) ?_
          refine wpList_nil ?_
          refine hK537 _ _ ?_
          refine wp_ret ?_
          refine hret _ _ ?_
          refine ends_still (v := Value.tuple #[.slice (some ⟨b59, 0, none⟩) out522.length ((q11.length : Int)).toNat, .int .i64 lost526, .int .i64 0]) (by kernel_rfl) (by kernel_rfl) ?_
          have HS550 := HS520.u1
          have HS551 := HS550.u3
          have HS552 := HS551.u3
          have HS553 := HS552.u3
          have HS554 := HS553.drop
          have HS555 := HS554.drop
          have HS556 := HS555.drop
          injection h with h
          injection h with h0_ h
          injection h with h1_ h
          subst h0_ h1_ h
          exact ⟨f517, (some ⟨b59, 0, none⟩), (((q11.length : Int)).toNat), s523, rfl, (L32.trans (L48.trans (L162.trans L518))), HS556, HO524⟩
        clear h; have h := hv527; clear hv527
        refine loopK (fun n_ a_ w_ => ∃ (f356 : FM) (s362 : Seg) (out361 : List Int) (lost365 : Int) (x366 : Int) (j360 : Nat → Value), FM.le f161 f356 ∧ St t w_ f356 ([(b175, .cells #[.func (.func 46) #[] #[.pointer (some ⟨b21, 0, none⟩), .pointer (some ⟨b17, 0, none⟩)]] 76 (0, 0))] :: s362 :: [(b21, .cells #[.slice A12 q11.length c13] 48 (0, 0))] :: [(b17, .cells #[.int .i64 s1.W, .int .i64 s1.H, .slice A2 s1.Bias.length c3, .slice A5 s1.Dark.length c6, .slice A8 s1.Flat.length c9, .int .i64 s1.Full, .int .i64 s1.Gain, .int .i64 s1.Noise] 46 (0, 0))] :: H) ∧ Own (tInt .i64) 22 f356 (some ⟨b59, 0, none⟩) ((q11.length : Int)).toNat s362 out361 ∧ out361.length = out166.length ∧ sensor_Bleed.l1 k s1 q11 n_ out361 lost365 x366 = some o352 ∧ a_ = ⟨#[.agg #[.int .i64 s1.W, .int .i64 s1.H, .slice A2 s1.Bias.length c3, .slice A5 s1.Dark.length c6, .slice A8 s1.Flat.length c9, .int .i64 s1.Full, .int .i64 s1.Gain, .int .i64 s1.Noise], .slice A12 q11.length c13, .pointer (some ⟨b17, 0, none⟩), .pointer (some ⟨b21, 0, none⟩), .slice (some ⟨b59, 0, none⟩) out361.length ((q11.length : Int)).toNat, .int .i64 lost365, .int .i64 0, .int .i64 vt29, (j165 0), (j165 1), .pointer (some ⟨b175, 0, none⟩), (j360 0), (j360 1), (j360 2), .agg #[.int .i64 s1.W, .int .i64 s1.H, .slice A2 s1.Bias.length c3, .slice A5 s1.Dark.length c6, .slice A8 s1.Flat.length c9, .int .i64 s1.Full, .int .i64 s1.Gain, .int .i64 s1.Noise], .slice A12 q11.length c13, .int .i64 (q11.length : Int), .int .i64 vt29, .int .i64 vt29, .bool false, undef, .slice A12 q11.length c13, .bool false, .slice A12 q11.length c13, .int .i64 (q11.length : Int), .slice (some ⟨b59, 0, none⟩) (List.replicate ((q11.length : Int)).toNat (0 : Int)).length ((q11.length : Int)).toNat, .slice A12 q11.length c13, .int .i64 (q11.length : Int), (j165 2), (j165 3), (j165 4), (j165 5), (j165 6), (j165 7), (j165 8), (j165 9), (j165 10), (j165 11), (j165 12), (j165 13), (j165 14), .func (.func 46) #[] #[.pointer (some ⟨b21, 0, none⟩), .pointer (some ⟨b17, 0, none⟩)], .pointer (some ⟨b17, 0, none⟩), .int .i64 s1.W, .int .i64 x366, (j360 3), (j360 4), (j360 5), (j360 6), (j360 7), (j360 8), (j360 9), (j360 10), (j360 11), (j360 12), (j360 13), (j360 14), (j360 15), (j360 16), (j360 17), (j360 18), (j360 19), (j360 20), (j360 21), (j360 22), (j360 23), (j360 24), (j360 25), (j360 26), (j360 27), (j360 28), (j360 29), (j360 30), (j360 31), (j360 32), (j360 33), (j360 34), (j360 35), (j360 36), undef, undef], []⟩) k ⟨f161, s167, out166, 0, 0, (fun i_ => [undef, undef, undef, undef, undef, undef, undef, undef, undef, undef, undef, undef, undef, undef, undef, undef, undef, undef, undef, undef, undef, undef, undef, undef, undef, undef, undef, undef, undef, undef, undef, undef, undef, undef, undef, undef, undef].getD i_ undef), (FM.le.refl _), HS180, HO168, rfl, h, (by kernel_rfl)⟩ ?_
        clear h
        rintro n355 _ W358 ⟨f356, s362, out361, lost365, x366, j360, L357, HS359, HO363, HL364, h, rfl⟩ K353 hK354
        obtain _ | n355 := n355
        · exact nomatch h
        simp only [sensor_Bleed.l1] at h
        refine wp_seq_k (fun K367 hK368 => ?_)
        refine wp_region_lit ?_
        refine seqS1 (a' := ⟨#[.agg #[.int .i64 s1.W, .int .i64 s1.H, .slice A2 s1.Bias.length c3, .slice A5 s1.Dark.length c6, .slice A8 s1.Flat.length c9, .int .i64 s1.Full, .int .i64 s1.Gain, .int .i64 s1.Noise], .slice A12 q11.length c13, .pointer (some ⟨b17, 0, none⟩), .pointer (some ⟨b21, 0, none⟩), .slice (some ⟨b59, 0, none⟩) out361.length ((q11.length : Int)).toNat, .int .i64 lost365, .int .i64 0, .int .i64 vt29, (j165 0), (j165 1), .pointer (some ⟨b175, 0, none⟩), (j360 0), (j360 1), (j360 2), .agg #[.int .i64 s1.W, .int .i64 s1.H, .slice A2 s1.Bias.length c3, .slice A5 s1.Dark.length c6, .slice A8 s1.Flat.length c9, .int .i64 s1.Full, .int .i64 s1.Gain, .int .i64 s1.Noise], .slice A12 q11.length c13, .int .i64 (q11.length : Int), .int .i64 vt29, .int .i64 vt29, .bool false, undef, .slice A12 q11.length c13, .bool false, .slice A12 q11.length c13, .int .i64 (q11.length : Int), .slice (some ⟨b59, 0, none⟩) (List.replicate ((q11.length : Int)).toNat (0 : Int)).length ((q11.length : Int)).toNat, .slice A12 q11.length c13, .int .i64 (q11.length : Int), (j165 2), (j165 3), (j165 4), (j165 5), (j165 6), (j165 7), (j165 8), (j165 9), (j165 10), (j165 11), (j165 12), (j165 13), (j165 14), .func (.func 46) #[] #[.pointer (some ⟨b21, 0, none⟩), .pointer (some ⟨b17, 0, none⟩)], .pointer (some ⟨b17, 0, none⟩), .int .i64 s1.W, .int .i64 x366, .bool (decide (x366 < s1.W)), (j360 4), (j360 5), (j360 6), (j360 7), (j360 8), (j360 9), (j360 10), (j360 11), (j360 12), (j360 13), (j360 14), (j360 15), (j360 16), (j360 17), (j360 18), (j360 19), (j360 20), (j360 21), (j360 22), (j360 23), (j360 24), (j360 25), (j360 26), (j360 27), (j360 28), (j360 29), (j360 30), (j360 31), (j360 32), (j360 33), (j360 34), (j360 35), (j360 36), undef, undef], []⟩) (by kernel_rfl) ?_
        refine wpList_nil ?_
        refine hK368 _ _ ?_
        refine wp_seq_k (fun K369 hK370 => ?_)
        have hq_ := ite_some h; clear h; rcases hq_ with ⟨c372, h⟩ | ⟨c372, h⟩
        · have c372 : x366 < s1.W := c372
          refine wpRwI 45 (x := (decide (x366 < s1.W))) (v := true) (by kernel_rfl) (decide_eq_true c372) ?_
          refine condT (by kernel_rfl) ?_
          refine wp_skip ?_
          refine hK370 _ _ ?_
          refine wp_seq_k (fun K373 hK374 => ?_)
          refine blockK (fun B375 hx376 hn377 hr378 ho379 hp380 => ?_)
          refine wp_seq_k (fun K382 hK383 => ?_)
          refine wp_region_lit ?_
          refine seqS2 (a' := ⟨#[.agg #[.int .i64 s1.W, .int .i64 s1.H, .slice A2 s1.Bias.length c3, .slice A5 s1.Dark.length c6, .slice A8 s1.Flat.length c9, .int .i64 s1.Full, .int .i64 s1.Gain, .int .i64 s1.Noise], .slice A12 q11.length c13, .pointer (some ⟨b17, 0, none⟩), .pointer (some ⟨b21, 0, none⟩), .slice (some ⟨b59, 0, none⟩) out361.length ((q11.length : Int)).toNat, .int .i64 lost365, .int .i64 0, .int .i64 vt29, (j165 0), (j165 1), .pointer (some ⟨b175, 0, none⟩), .int .i64 x366, (j360 1), (j360 2), .agg #[.int .i64 s1.W, .int .i64 s1.H, .slice A2 s1.Bias.length c3, .slice A5 s1.Dark.length c6, .slice A8 s1.Flat.length c9, .int .i64 s1.Full, .int .i64 s1.Gain, .int .i64 s1.Noise], .slice A12 q11.length c13, .int .i64 (q11.length : Int), .int .i64 vt29, .int .i64 vt29, .bool false, undef, .slice A12 q11.length c13, .bool false, .slice A12 q11.length c13, .int .i64 (q11.length : Int), .slice (some ⟨b59, 0, none⟩) (List.replicate ((q11.length : Int)).toNat (0 : Int)).length ((q11.length : Int)).toNat, .slice A12 q11.length c13, .int .i64 (q11.length : Int), (j165 2), (j165 3), (j165 4), (j165 5), (j165 6), (j165 7), (j165 8), (j165 9), (j165 10), (j165 11), (j165 12), (j165 13), (j165 14), .func (.func 46) #[] #[.pointer (some ⟨b21, 0, none⟩), .pointer (some ⟨b17, 0, none⟩)], .pointer (some ⟨b17, 0, none⟩), .int .i64 s1.W, .int .i64 x366, .bool true, .int .i64 x366, (j360 5), (j360 6), (j360 7), (j360 8), (j360 9), (j360 10), (j360 11), (j360 12), (j360 13), (j360 14), (j360 15), (j360 16), (j360 17), (j360 18), (j360 19), (j360 20), (j360 21), (j360 22), (j360 23), (j360 24), (j360 25), (j360 26), (j360 27), (j360 28), (j360 29), (j360 30), (j360 31), (j360 32), (j360 33), (j360 34), (j360 35), (j360 36), undef, undef], []⟩) (by kernel_rfl) ?_
          refine wpList_nil ?_
          refine hK383 _ _ ?_
          refine wp_seq_k (fun K384 hK385 => ?_)
          refine wp_region_lit ?_
          refine seqS1 (a' := ⟨#[.agg #[.int .i64 s1.W, .int .i64 s1.H, .slice A2 s1.Bias.length c3, .slice A5 s1.Dark.length c6, .slice A8 s1.Flat.length c9, .int .i64 s1.Full, .int .i64 s1.Gain, .int .i64 s1.Noise], .slice A12 q11.length c13, .pointer (some ⟨b17, 0, none⟩), .pointer (some ⟨b21, 0, none⟩), .slice (some ⟨b59, 0, none⟩) out361.length ((q11.length : Int)).toNat, .int .i64 lost365, .int .i64 0, .int .i64 vt29, (j165 0), (j165 1), .pointer (some ⟨b175, 0, none⟩), .int .i64 x366, .slice none 0 0, (j360 2), .agg #[.int .i64 s1.W, .int .i64 s1.H, .slice A2 s1.Bias.length c3, .slice A5 s1.Dark.length c6, .slice A8 s1.Flat.length c9, .int .i64 s1.Full, .int .i64 s1.Gain, .int .i64 s1.Noise], .slice A12 q11.length c13, .int .i64 (q11.length : Int), .int .i64 vt29, .int .i64 vt29, .bool false, undef, .slice A12 q11.length c13, .bool false, .slice A12 q11.length c13, .int .i64 (q11.length : Int), .slice (some ⟨b59, 0, none⟩) (List.replicate ((q11.length : Int)).toNat (0 : Int)).length ((q11.length : Int)).toNat, .slice A12 q11.length c13, .int .i64 (q11.length : Int), (j165 2), (j165 3), (j165 4), (j165 5), (j165 6), (j165 7), (j165 8), (j165 9), (j165 10), (j165 11), (j165 12), (j165 13), (j165 14), .func (.func 46) #[] #[.pointer (some ⟨b21, 0, none⟩), .pointer (some ⟨b17, 0, none⟩)], .pointer (some ⟨b17, 0, none⟩), .int .i64 s1.W, .int .i64 x366, .bool true, .int .i64 x366, (j360 5), (j360 6), (j360 7), (j360 8), (j360 9), (j360 10), (j360 11), (j360 12), (j360 13), (j360 14), (j360 15), (j360 16), (j360 17), (j360 18), (j360 19), (j360 20), (j360 21), (j360 22), (j360 23), (j360 24), (j360 25), (j360 26), (j360 27), (j360 28), (j360 29), (j360 30), (j360 31), (j360 32), (j360 33), (j360 34), (j360 35), (j360 36), undef, undef], []⟩) (by kernel_rfl) ?_
          refine wpList_nil ?_
          refine hK385 _ _ ?_
          refine wp_seq_k (fun K386 hK387 => ?_)
          refine wp_seq_k (fun K388 hK389 => ?_)
          refine wp_region_lit ?_
          refine seqL1 (by kernel_rfl) ?_
          refine seqK rfl (does_run (run_load rfl Try.underlying3 rfl (by kernel_rfl : _ = Value.pointer (some ⟨b17, 1, none⟩)) (HS359.u3.cell 1)) ?_)
          refine seqS1 (a' := ⟨#[.agg #[.int .i64 s1.W, .int .i64 s1.H, .slice A2 s1.Bias.length c3, .slice A5 s1.Dark.length c6, .slice A8 s1.Flat.length c9, .int .i64 s1.Full, .int .i64 s1.Gain, .int .i64 s1.Noise], .slice A12 q11.length c13, .pointer (some ⟨b17, 0, none⟩), .pointer (some ⟨b21, 0, none⟩), .slice (some ⟨b59, 0, none⟩) out361.length ((q11.length : Int)).toNat, .int .i64 lost365, .int .i64 0, .int .i64 vt29, (j165 0), (j165 1), .pointer (some ⟨b175, 0, none⟩), .int .i64 x366, .slice none 0 0, (j360 2), .agg #[.int .i64 s1.W, .int .i64 s1.H, .slice A2 s1.Bias.length c3, .slice A5 s1.Dark.length c6, .slice A8 s1.Flat.length c9, .int .i64 s1.Full, .int .i64 s1.Gain, .int .i64 s1.Noise], .slice A12 q11.length c13, .int .i64 (q11.length : Int), .int .i64 vt29, .int .i64 vt29, .bool false, undef, .slice A12 q11.length c13, .bool false, .slice A12 q11.length c13, .int .i64 (q11.length : Int), .slice (some ⟨b59, 0, none⟩) (List.replicate ((q11.length : Int)).toNat (0 : Int)).length ((q11.length : Int)).toNat, .slice A12 q11.length c13, .int .i64 (q11.length : Int), (j165 2), (j165 3), (j165 4), (j165 5), (j165 6), (j165 7), (j165 8), (j165 9), (j165 10), (j165 11), (j165 12), (j165 13), (j165 14), .func (.func 46) #[] #[.pointer (some ⟨b21, 0, none⟩), .pointer (some ⟨b17, 0, none⟩)], .pointer (some ⟨b17, 0, none⟩), .int .i64 s1.W, .int .i64 x366, .bool true, .int .i64 x366, .pointer (some ⟨b17, 1, none⟩), .int .i64 s1.H, .int .i64 0, (j360 8), (j360 9), (j360 10), (j360 11), (j360 12), (j360 13), (j360 14), (j360 15), (j360 16), (j360 17), (j360 18), (j360 19), (j360 20), (j360 21), (j360 22), (j360 23), (j360 24), (j360 25), (j360 26), (j360 27), (j360 28), (j360 29), (j360 30), (j360 31), (j360 32), (j360 33), (j360 34), (j360 35), (j360 36), undef, undef], []⟩) (by kernel_rfl) ?_
          refine wpList_nil ?_
          refine hK389 _ _ ?_
          refine blockK (fun B390 hx391 hn392 hr393 ho394 hp395 => ?_)
          have hq_ := bind_some h; clear h; obtain ⟨o396, hv455, h⟩ := hq_
          have J456 : ∀ (f444 : FM) (A450 : Option Addr) (c451 : Nat) (s452 : Seg) (column449 : List Int) (j448 : Nat → Value) (W446 : World) (a_ : Act), FM.le f356 f444 → some (column449) = some o396 → St t W446 f444 (s452 :: [(b175, .cells #[.func (.func 46) #[] #[.pointer (some ⟨b21, 0, none⟩), .pointer (some ⟨b17, 0, none⟩)]] 76 (0, 0))] :: s362 :: [(b21, .cells #[.slice A12 q11.length c13] 48 (0, 0))] :: [(b17, .cells #[.int .i64 s1.W, .int .i64 s1.H, .slice A2 s1.Bias.length c3, .slice A5 s1.Dark.length c6, .slice A8 s1.Flat.length c9, .int .i64 s1.Full, .int .i64 s1.Gain, .int .i64 s1.Noise] 46 (0, 0))] :: H) → Own (tInt .i64) 3 f444 A450 c451 s452 column449 → a_ = ⟨#[.agg #[.int .i64 s1.W, .int .i64 s1.H, .slice A2 s1.Bias.length c3, .slice A5 s1.Dark.length c6, .slice A8 s1.Flat.length c9, .int .i64 s1.Full, .int .i64 s1.Gain, .int .i64 s1.Noise], .slice A12 q11.length c13, .pointer (some ⟨b17, 0, none⟩), .pointer (some ⟨b21, 0, none⟩), .slice (some ⟨b59, 0, none⟩) out361.length ((q11.length : Int)).toNat, .int .i64 lost365, .int .i64 0, .int .i64 vt29, (j165 0), (j165 1), .pointer (some ⟨b175, 0, none⟩), .int .i64 x366, .slice A450 column449.length c451, (j448 0), .agg #[.int .i64 s1.W, .int .i64 s1.H, .slice A2 s1.Bias.length c3, .slice A5 s1.Dark.length c6, .slice A8 s1.Flat.length c9, .int .i64 s1.Full, .int .i64 s1.Gain, .int .i64 s1.Noise], .slice A12 q11.length c13, .int .i64 (q11.length : Int), .int .i64 vt29, .int .i64 vt29, .bool false, undef, .slice A12 q11.length c13, .bool false, .slice A12 q11.length c13, .int .i64 (q11.length : Int), .slice (some ⟨b59, 0, none⟩) (List.replicate ((q11.length : Int)).toNat (0 : Int)).length ((q11.length : Int)).toNat, .slice A12 q11.length c13, .int .i64 (q11.length : Int), (j165 2), (j165 3), (j165 4), (j165 5), (j165 6), (j165 7), (j165 8), (j165 9), (j165 10), (j165 11), (j165 12), (j165 13), (j165 14), .func (.func 46) #[] #[.pointer (some ⟨b21, 0, none⟩), .pointer (some ⟨b17, 0, none⟩)], .pointer (some ⟨b17, 0, none⟩), .int .i64 s1.W, .int .i64 x366, .bool true, .int .i64 x366, .pointer (some ⟨b17, 1, none⟩), .int .i64 s1.H, (j448 1), (j448 2), (j448 3), (j448 4), (j448 5), (j448 6), (j448 7), (j448 8), (j448 9), (j448 10), (j448 11), (j448 12), (j448 13), (j360 20), (j360 21), (j360 22), (j360 23), (j360 24), (j360 25), (j360 26), (j360 27), (j360 28), (j360 29), (j360 30), (j360 31), (j360 32), (j360 33), (j360 34), (j360 35), (j360 36), undef, undef], []⟩ → K386 a_ W446 := by
            intro f444 A450 c451 s452 column449 j448 W446 a_ L445 hj457 HS447 HO453 hfr_; subst hfr_
            injection hj457 with hj457; subst hj457; try dsimp only at h
            refine hK387 _ _ ?_
            refine wp_seq_k (fun K460 hK461 => ?_)
            refine wp_region_lit ?_
            refine seqL1 (by kernel_rfl) ?_
            refine seqK rfl (does_run (run_loadN (n := 8) rfl Try.underlying46 rfl (by kernel_rfl) (by kernel_rfl : _ = Value.pointer (some ⟨b17, 0, none⟩)) (cs := [.int .i64 s1.W, .int .i64 s1.H, .slice A2 s1.Bias.length c3, .slice A5 s1.Dark.length c6, .slice A8 s1.Flat.length c9, .int .i64 s1.Full, .int .i64 s1.Gain, .int .i64 s1.Noise]) rfl (HS447.u4.cells 0 8 _ rfl)) ?_)
            obtain ⟨f462, L463, HS464, HR465, th466⟩ := HO453.lend HS447
            have HS467 := HS464.u1
            have HS468 := HS467.u3
            have HS469 := HS468.u3
            have HS470 := HS469.u3
            have hq_ := bind_some h; clear h; obtain ⟨⟨vt471, vt472⟩, hc473, h⟩ := hq_
            refine seqL3 (by kernel_rfl) ?_
            refine seqK rfl (does_call (f := 47) (args := #[.agg #[.int .i64 s1.W, .int .i64 s1.H, .slice A2 s1.Bias.length c3, .slice A5 s1.Dark.length c6, .slice A8 s1.Flat.length c9, .int .i64 s1.Full, .int .i64 s1.Gain, .int .i64 s1.Noise], .slice (some ⟨b59, 0, none⟩) out361.length ((q11.length : Int)).toNat, .slice A450 column449.length c451, .func (.func 48) #[] #[.pointer (some ⟨b175, 0, none⟩)]]) (by kernel_rfl) (sensor_pour__sensor_Bleed_2.calls k b175 b21 A12 c13 b17 A2 c3 A5 c6 A8 c9 A2 c3 A5 c6 A8 c9 (some ⟨b59, 0, none⟩) (((q11.length : Int)).toNat) s362 A450 c451 q11 s1 s1 out361 column449 HS470 (HR14.mono (L32.trans (L48.trans (L162.trans (L357.trans (L445.trans L463)))))) (HR4.mono (L32.trans (L48.trans (L162.trans (L357.trans (L445.trans L463)))))) (HR7.mono (L32.trans (L48.trans (L162.trans (L357.trans (L445.trans L463)))))) (HR10.mono (L32.trans (L48.trans (L162.trans (L357.trans (L445.trans L463)))))) (HR4.mono (L32.trans (L48.trans (L162.trans (L357.trans (L445.trans L463)))))) (HR7.mono (L32.trans (L48.trans (L162.trans (L357.trans (L445.trans L463)))))) (HR10.mono (L32.trans (L48.trans (L162.trans (L357.trans (L445.trans L463)))))) (HO363.mono (L445.trans L463)) HR465 vt471 vt472 hc473) ?_)
            rintro _ W476 ⟨f474, s478, rfl, L475, HS477, HO479, HL480⟩
            refine ⟨_, rfl, ?_⟩
            obtain ⟨f481, L482, HS483⟩ := th466 L475 HS477
            replace HO479 := HO479.flat (g := f481) (fun _ _ _ _ h_ => h_)
            refine seqRwS 4 (A := (some ⟨b59, 0, none⟩)) (m := out361.length) (n := vt472.length) (c := ((q11.length : Int)).toNat) (by kernel_rfl) (HL480).symm ?_
            refine seqRwS 64 (A := (some ⟨b59, 0, none⟩)) (m := out361.length) (n := vt472.length) (c := ((q11.length : Int)).toNat) (by kernel_rfl) (HL480).symm ?_
            refine seqS2 (a' := ⟨#[.agg #[.int .i64 s1.W, .int .i64 s1.H, .slice A2 s1.Bias.length c3, .slice A5 s1.Dark.length c6, .slice A8 s1.Flat.length c9, .int .i64 s1.Full, .int .i64 s1.Gain, .int .i64 s1.Noise], .slice A12 q11.length c13, .pointer (some ⟨b17, 0, none⟩), .pointer (some ⟨b21, 0, none⟩), .slice (some ⟨b59, 0, none⟩) vt472.length ((q11.length : Int)).toNat, .int .i64 (w64 (lost365 + vt471)), .int .i64 0, .int .i64 vt29, (j165 0), (j165 1), .pointer (some ⟨b175, 0, none⟩), .int .i64 x366, .slice A450 column449.length c451, (j448 0), .agg #[.int .i64 s1.W, .int .i64 s1.H, .slice A2 s1.Bias.length c3, .slice A5 s1.Dark.length c6, .slice A8 s1.Flat.length c9, .int .i64 s1.Full, .int .i64 s1.Gain, .int .i64 s1.Noise], .slice A12 q11.length c13, .int .i64 (q11.length : Int), .int .i64 vt29, .int .i64 vt29, .bool false, undef, .slice A12 q11.length c13, .bool false, .slice A12 q11.length c13, .int .i64 (q11.length : Int), .slice (some ⟨b59, 0, none⟩) (List.replicate ((q11.length : Int)).toNat (0 : Int)).length ((q11.length : Int)).toNat, .slice A12 q11.length c13, .int .i64 (q11.length : Int), (j165 2), (j165 3), (j165 4), (j165 5), (j165 6), (j165 7), (j165 8), (j165 9), (j165 10), (j165 11), (j165 12), (j165 13), (j165 14), .func (.func 46) #[] #[.pointer (some ⟨b21, 0, none⟩), .pointer (some ⟨b17, 0, none⟩)], .pointer (some ⟨b17, 0, none⟩), .int .i64 s1.W, .int .i64 x366, .bool true, .int .i64 x366, .pointer (some ⟨b17, 1, none⟩), .int .i64 s1.H, (j448 1), (j448 2), (j448 3), (j448 4), (j448 5), (j448 6), (j448 7), (j448 8), (j448 9), (j448 10), (j448 11), (j448 12), (j448 13), .int .i64 lost365, .agg #[.int .i64 s1.W, .int .i64 s1.H, .slice A2 s1.Bias.length c3, .slice A5 s1.Dark.length c6, .slice A8 s1.Flat.length c9, .int .i64 s1.Full, .int .i64 s1.Gain, .int .i64 s1.Noise], .slice (some ⟨b59, 0, none⟩) vt472.length ((q11.length : Int)).toNat, .slice A450 column449.length c451, .func (.func 48) #[] #[.pointer (some ⟨b175, 0, none⟩)], .int .i64 vt471, .int .i64 (w64 (lost365 + vt471)), (j360 27), (j360 28), (j360 29), (j360 30), (j360 31), (j360 32), (j360 33), (j360 34), (j360 35), (j360 36), undef, undef], []⟩) (by kernel_rfl) ?_
            refine wpList_nil ?_
            refine hK461 _ _ ?_
            refine wp_seq_k (fun K484 hK485 => ?_)
            refine wp_region_lit ?_
            have hq_ := bind_some h; clear h; obtain ⟨vt486, hc487, h⟩ := hq_
            refine seqL1 (by kernel_rfl) ?_
            refine seqK rfl (does_call (f := 49) (args := #[.slice A450 column449.length c451]) (by kernel_rfl) (slices_Reverse_int.calls k A450 c451 s452 column449 HS483 (HO453.mono L482) vt486 hc487) ?_)
            rintro _ W490 ⟨f488, s492, rfl, L489, HS491, HO493, HL494⟩
            refine ⟨_, rfl, ?_⟩
            refine seqRwS 12 (A := A450) (m := column449.length) (n := vt486.length) (c := c451) (by kernel_rfl) (HL494).symm ?_
            refine seqRwS 65 (A := A450) (m := column449.length) (n := vt486.length) (c := c451) (by kernel_rfl) (HL494).symm ?_
            refine seqRwS 69 (A := A450) (m := column449.length) (n := vt486.length) (c := c451) (by kernel_rfl) (HL494).symm ?_
            refine wpList_nil ?_
            refine hK485 _ _ ?_
            refine wp_region_lit ?_
            refine seqL1 (by kernel_rfl) ?_
            refine seqK rfl (does_run (run_loadN (n := 8) rfl Try.underlying46 rfl (by kernel_rfl) (by kernel_rfl : _ = Value.pointer (some ⟨b17, 0, none⟩)) (cs := [.int .i64 s1.W, .int .i64 s1.H, .slice A2 s1.Bias.length c3, .slice A5 s1.Dark.length c6, .slice A8 s1.Flat.length c9, .int .i64 s1.Full, .int .i64 s1.Gain, .int .i64 s1.Noise]) rfl (HS491.u3.cells 0 8 _ rfl)) ?_)
            obtain ⟨f495, L496, HS497, HR498, th499⟩ := HO493.lend HS491
            have HS500 := HS497.u3
            have HS501 := HS500.u3
            have HS502 := HS501.u3
            have HS503 := HS502.u3
            have hq_ := bind_some h; clear h; obtain ⟨⟨vt504, vt505⟩, hc506, h⟩ := hq_
            refine seqL3 (by kernel_rfl) ?_
            refine seqK rfl (does_call (f := 47) (args := #[.agg #[.int .i64 s1.W, .int .i64 s1.H, .slice A2 s1.Bias.length c3, .slice A5 s1.Dark.length c6, .slice A8 s1.Flat.length c9, .int .i64 s1.Full, .int .i64 s1.Gain, .int .i64 s1.Noise], .slice (some ⟨b59, 0, none⟩) vt472.length ((q11.length : Int)).toNat, .slice A450 vt486.length c451, .func (.func 50) #[] #[.pointer (some ⟨b175, 0, none⟩)]]) (by kernel_rfl) (sensor_pour__sensor_Bleed_3.calls k b175 b21 A12 c13 b17 A2 c3 A5 c6 A8 c9 A2 c3 A5 c6 A8 c9 (some ⟨b59, 0, none⟩) (((q11.length : Int)).toNat) s478 A450 c451 q11 s1 s1 vt472 vt486 HS503 (HR14.mono (L32.trans (L48.trans (L162.trans (L357.trans (L445.trans (L482.trans (L489.trans L496)))))))) (HR4.mono (L32.trans (L48.trans (L162.trans (L357.trans (L445.trans (L482.trans (L489.trans L496)))))))) (HR7.mono (L32.trans (L48.trans (L162.trans (L357.trans (L445.trans (L482.trans (L489.trans L496)))))))) (HR10.mono (L32.trans (L48.trans (L162.trans (L357.trans (L445.trans (L482.trans (L489.trans L496)))))))) (HR4.mono (L32.trans (L48.trans (L162.trans (L357.trans (L445.trans (L482.trans (L489.trans L496)))))))) (HR7.mono (L32.trans (L48.trans (L162.trans (L357.trans (L445.trans (L482.trans (L489.trans L496)))))))) (HR10.mono (L32.trans (L48.trans (L162.trans (L357.trans (L445.trans (L482.trans (L489.trans L496)))))))) (HO479.mono (L489.trans L496)) HR498 vt504 vt505 hc506) ?_)
            rintro _ W509 ⟨f507, s511, rfl, L508, HS510, HO512, HL513⟩
            refine ⟨_, rfl, ?_⟩
            obtain ⟨f514, L515, HS516⟩ := th499 L508 HS510
            replace HO512 := HO512.flat (g := f514) (fun _ _ _ _ h_ => h_)
            refine seqRwS 4 (A := (some ⟨b59, 0, none⟩)) (m := vt472.length) (n := vt505.length) (c := ((q11.length : Int)).toNat) (by kernel_rfl) (HL513).symm ?_
            refine seqRwS 64 (A := (some ⟨b59, 0, none⟩)) (m := vt472.length) (n := vt505.length) (c := ((q11.length : Int)).toNat) (by kernel_rfl) (HL513).symm ?_
            refine seqRwS 73 (A := (some ⟨b59, 0, none⟩)) (m := vt472.length) (n := vt505.length) (c := ((q11.length : Int)).toNat) (by kernel_rfl) (HL513).symm ?_
            refine seqS2 (a' := ⟨#[.agg #[.int .i64 s1.W, .int .i64 s1.H, .slice A2 s1.Bias.length c3, .slice A5 s1.Dark.length c6, .slice A8 s1.Flat.length c9, .int .i64 s1.Full, .int .i64 s1.Gain, .int .i64 s1.Noise], .slice A12 q11.length c13, .pointer (some ⟨b17, 0, none⟩), .pointer (some ⟨b21, 0, none⟩), .slice (some ⟨b59, 0, none⟩) vt505.length ((q11.length : Int)).toNat, .int .i64 (w64 ((w64 (lost365 + vt471)) + vt504)), .int .i64 0, .int .i64 vt29, (j165 0), (j165 1), .pointer (some ⟨b175, 0, none⟩), .int .i64 x366, .slice A450 vt486.length c451, (j448 0), .agg #[.int .i64 s1.W, .int .i64 s1.H, .slice A2 s1.Bias.length c3, .slice A5 s1.Dark.length c6, .slice A8 s1.Flat.length c9, .int .i64 s1.Full, .int .i64 s1.Gain, .int .i64 s1.Noise], .slice A12 q11.length c13, .int .i64 (q11.length : Int), .int .i64 vt29, .int .i64 vt29, .bool false, undef, .slice A12 q11.length c13, .bool false, .slice A12 q11.length c13, .int .i64 (q11.length : Int), .slice (some ⟨b59, 0, none⟩) (List.replicate ((q11.length : Int)).toNat (0 : Int)).length ((q11.length : Int)).toNat, .slice A12 q11.length c13, .int .i64 (q11.length : Int), (j165 2), (j165 3), (j165 4), (j165 5), (j165 6), (j165 7), (j165 8), (j165 9), (j165 10), (j165 11), (j165 12), (j165 13), (j165 14), .func (.func 46) #[] #[.pointer (some ⟨b21, 0, none⟩), .pointer (some ⟨b17, 0, none⟩)], .pointer (some ⟨b17, 0, none⟩), .int .i64 s1.W, .int .i64 x366, .bool true, .int .i64 x366, .pointer (some ⟨b17, 1, none⟩), .int .i64 s1.H, (j448 1), (j448 2), (j448 3), (j448 4), (j448 5), (j448 6), (j448 7), (j448 8), (j448 9), (j448 10), (j448 11), (j448 12), (j448 13), .int .i64 lost365, .agg #[.int .i64 s1.W, .int .i64 s1.H, .slice A2 s1.Bias.length c3, .slice A5 s1.Dark.length c6, .slice A8 s1.Flat.length c9, .int .i64 s1.Full, .int .i64 s1.Gain, .int .i64 s1.Noise], .slice (some ⟨b59, 0, none⟩) vt505.length ((q11.length : Int)).toNat, .slice A450 vt486.length c451, .func (.func 48) #[] #[.pointer (some ⟨b175, 0, none⟩)], .int .i64 vt471, .int .i64 (w64 (lost365 + vt471)), .slice A450 vt486.length c451, .tuple #[], .int .i64 (w64 (lost365 + vt471)), .agg #[.int .i64 s1.W, .int .i64 s1.H, .slice A2 s1.Bias.length c3, .slice A5 s1.Dark.length c6, .slice A8 s1.Flat.length c9, .int .i64 s1.Full, .int .i64 s1.Gain, .int .i64 s1.Noise], .slice (some ⟨b59, 0, none⟩) vt505.length ((q11.length : Int)).toNat, .slice A450 vt486.length c451, .func (.func 50) #[] #[.pointer (some ⟨b175, 0, none⟩)], .int .i64 vt504, .int .i64 (w64 ((w64 (lost365 + vt471)) + vt504)), (j360 36), undef, undef], []⟩) (by kernel_rfl) ?_
            refine wpList_nil ?_
            refine hn377 _ _ ?_
            refine hK374 _ _ ?_
            refine wp_region_lit ?_
            refine seqS2 (a' := ⟨#[.agg #[.int .i64 s1.W, .int .i64 s1.H, .slice A2 s1.Bias.length c3, .slice A5 s1.Dark.length c6, .slice A8 s1.Flat.length c9, .int .i64 s1.Full, .int .i64 s1.Gain, .int .i64 s1.Noise], .slice A12 q11.length c13, .pointer (some ⟨b17, 0, none⟩), .pointer (some ⟨b21, 0, none⟩), .slice (some ⟨b59, 0, none⟩) vt505.length ((q11.length : Int)).toNat, .int .i64 (w64 ((w64 (lost365 + vt471)) + vt504)), .int .i64 0, .int .i64 vt29, (j165 0), (j165 1), .pointer (some ⟨b175, 0, none⟩), .int .i64 x366, .slice A450 vt486.length c451, (j448 0), .agg #[.int .i64 s1.W, .int .i64 s1.H, .slice A2 s1.Bias.length c3, .slice A5 s1.Dark.length c6, .slice A8 s1.Flat.length c9, .int .i64 s1.Full, .int .i64 s1.Gain, .int .i64 s1.Noise], .slice A12 q11.length c13, .int .i64 (q11.length : Int), .int .i64 vt29, .int .i64 vt29, .bool false, undef, .slice A12 q11.length c13, .bool false, .slice A12 q11.length c13, .int .i64 (q11.length : Int), .slice (some ⟨b59, 0, none⟩) (List.replicate ((q11.length : Int)).toNat (0 : Int)).length ((q11.length : Int)).toNat, .slice A12 q11.length c13, .int .i64 (q11.length : Int), (j165 2), (j165 3), (j165 4), (j165 5), (j165 6), (j165 7), (j165 8), (j165 9), (j165 10), (j165 11), (j165 12), (j165 13), (j165 14), .func (.func 46) #[] #[.pointer (some ⟨b21, 0, none⟩), .pointer (some ⟨b17, 0, none⟩)], .pointer (some ⟨b17, 0, none⟩), .int .i64 s1.W, .int .i64 (w64 (x366 + 1)), .bool true, .int .i64 x366, .pointer (some ⟨b17, 1, none⟩), .int .i64 s1.H, (j448 1), (j448 2), (j448 3), (j448 4), (j448 5), (j448 6), (j448 7), (j448 8), (j448 9), (j448 10), (j448 11), (j448 12), (j448 13), .int .i64 lost365, .agg #[.int .i64 s1.W, .int .i64 s1.H, .slice A2 s1.Bias.length c3, .slice A5 s1.Dark.length c6, .slice A8 s1.Flat.length c9, .int .i64 s1.Full, .int .i64 s1.Gain, .int .i64 s1.Noise], .slice (some ⟨b59, 0, none⟩) vt505.length ((q11.length : Int)).toNat, .slice A450 vt486.length c451, .func (.func 48) #[] #[.pointer (some ⟨b175, 0, none⟩)], .int .i64 vt471, .int .i64 (w64 (lost365 + vt471)), .slice A450 vt486.length c451, .tuple #[], .int .i64 (w64 (lost365 + vt471)), .agg #[.int .i64 s1.W, .int .i64 s1.H, .slice A2 s1.Bias.length c3, .slice A5 s1.Dark.length c6, .slice A8 s1.Flat.length c9, .int .i64 s1.Full, .int .i64 s1.Gain, .int .i64 s1.Noise], .slice (some ⟨b59, 0, none⟩) vt505.length ((q11.length : Int)).toNat, .slice A450 vt486.length c451, .func (.func 50) #[] #[.pointer (some ⟨b175, 0, none⟩)], .int .i64 vt504, .int .i64 (w64 ((w64 (lost365 + vt471)) + vt504)), .int .i64 (w64 (x366 + 1)), undef, undef], []⟩) (by kernel_rfl) ?_
            refine wpList_nil ?_
            refine hK354 n355 _ _ (Nat.lt_succ_self _) ?_
            have HS530 := HS516.u3
            have HS531 := HS530.u3
            have HS532 := HS531.u4
            have HS533 := HS532.u4
            have HS534 := HS533.u4
            have HS535 := HS534.drop
            exact ⟨f514, s511, vt505, (w64 ((w64 (lost365 + vt471)) + vt504)), (w64 (x366 + 1)), (fun i_ => [Value.int .i64 x366, Value.slice A450 vt486.length c451, (j448 0), Value.bool true, Value.int .i64 x366, Value.pointer (some ⟨b17, 1, none⟩), Value.int .i64 s1.H, (j448 1), (j448 2), (j448 3), (j448 4), (j448 5), (j448 6), (j448 7), (j448 8), (j448 9), (j448 10), (j448 11), (j448 12), (j448 13), Value.int .i64 lost365, Value.agg #[.int .i64 s1.W, .int .i64 s1.H, .slice A2 s1.Bias.length c3, .slice A5 s1.Dark.length c6, .slice A8 s1.Flat.length c9, .int .i64 s1.Full, .int .i64 s1.Gain, .int .i64 s1.Noise], Value.slice (some ⟨b59, 0, none⟩) vt505.length ((q11.length : Int)).toNat, Value.slice A450 vt486.length c451, Value.func (.func 48) #[] #[.pointer (some ⟨b175, 0, none⟩)], Value.int .i64 vt471, Value.int .i64 (w64 (lost365 + vt471)), Value.slice A450 vt486.length c451, Value.tuple #[], Value.int .i64 (w64 (lost365 + vt471)), Value.agg #[.int .i64 s1.W, .int .i64 s1.H, .slice A2 s1.Bias.length c3, .slice A5 s1.Dark.length c6, .slice A8 s1.Flat.length c9, .int .i64 s1.Full, .int .i64 s1.Gain, .int .i64 s1.Noise], Value.slice (some ⟨b59, 0, none⟩) vt505.length ((q11.length : Int)).toNat, Value.slice A450 vt486.length c451, Value.func (.func 50) #[] #[.pointer (some ⟨b175, 0, none⟩)], Value.int .i64 vt504, Value.int .i64 (w64 ((w64 (lost365 + vt471)) + vt504)), Value.int .i64 (w64 (x366 + 1))].getD i_ undef), (L357.trans (L445.trans (L482.trans (L489.trans L515)))), HS535, HO512, (HL513.trans (HL480.trans HL364)), h, (by kernel_rfl)⟩
          clear h; have h := hv455; clear hv455
          have HS458 := HS359.cons_nil
          refine loopK (fun n_ a_ w_ => ∃ (f400 : FM) (A406 : Option Addr) (c407 : Nat) (s408 : Seg) (column405 : List Int) (x411 : Int) (j404 : Nat → Value), FM.le f356 f400 ∧ St t w_ f400 (s408 :: [(b175, .cells #[.func (.func 46) #[] #[.pointer (some ⟨b21, 0, none⟩), .pointer (some ⟨b17, 0, none⟩)]] 76 (0, 0))] :: s362 :: [(b21, .cells #[.slice A12 q11.length c13] 48 (0, 0))] :: [(b17, .cells #[.int .i64 s1.W, .int .i64 s1.H, .slice A2 s1.Bias.length c3, .slice A5 s1.Dark.length c6, .slice A8 s1.Flat.length c9, .int .i64 s1.Full, .int .i64 s1.Gain, .int .i64 s1.Noise] 46 (0, 0))] :: H) ∧ Own (tInt .i64) 3 f400 A406 c407 s408 column405 ∧ sensor_Bleed.l2 k s1 x366 n_ column405 x411 = some o396 ∧ a_ = ⟨#[.agg #[.int .i64 s1.W, .int .i64 s1.H, .slice A2 s1.Bias.length c3, .slice A5 s1.Dark.length c6, .slice A8 s1.Flat.length c9, .int .i64 s1.Full, .int .i64 s1.Gain, .int .i64 s1.Noise], .slice A12 q11.length c13, .pointer (some ⟨b17, 0, none⟩), .pointer (some ⟨b21, 0, none⟩), .slice (some ⟨b59, 0, none⟩) out361.length ((q11.length : Int)).toNat, .int .i64 lost365, .int .i64 0, .int .i64 vt29, (j165 0), (j165 1), .pointer (some ⟨b175, 0, none⟩), .int .i64 x366, .slice A406 column405.length c407, (j404 0), .agg #[.int .i64 s1.W, .int .i64 s1.H, .slice A2 s1.Bias.length c3, .slice A5 s1.Dark.length c6, .slice A8 s1.Flat.length c9, .int .i64 s1.Full, .int .i64 s1.Gain, .int .i64 s1.Noise], .slice A12 q11.length c13, .int .i64 (q11.length : Int), .int .i64 vt29, .int .i64 vt29, .bool false, undef, .slice A12 q11.length c13, .bool false, .slice A12 q11.length c13, .int .i64 (q11.length : Int), .slice (some ⟨b59, 0, none⟩) (List.replicate ((q11.length : Int)).toNat (0 : Int)).length ((q11.length : Int)).toNat, .slice A12 q11.length c13, .int .i64 (q11.length : Int), (j165 2), (j165 3), (j165 4), (j165 5), (j165 6), (j165 7), (j165 8), (j165 9), (j165 10), (j165 11), (j165 12), (j165 13), (j165 14), .func (.func 46) #[] #[.pointer (some ⟨b21, 0, none⟩), .pointer (some ⟨b17, 0, none⟩)], .pointer (some ⟨b17, 0, none⟩), .int .i64 s1.W, .int .i64 x366, .bool true, .int .i64 x366, .pointer (some ⟨b17, 1, none⟩), .int .i64 s1.H, .int .i64 x411, (j404 1), (j404 2), (j404 3), (j404 4), (j404 5), (j404 6), (j404 7), (j404 8), (j404 9), (j404 10), (j404 11), (j404 12), (j360 20), (j360 21), (j360 22), (j360 23), (j360 24), (j360 25), (j360 26), (j360 27), (j360 28), (j360 29), (j360 30), (j360 31), (j360 32), (j360 33), (j360 34), (j360 35), (j360 36), undef, undef], []⟩) k ⟨f356, none, 0, [], ([] : List Int), 0, (fun i_ => [(j360 2), (j360 8), (j360 9), (j360 10), (j360 11), (j360 12), (j360 13), (j360 14), (j360 15), (j360 16), (j360 17), (j360 18), (j360 19)].getD i_ undef), (FM.le.refl _), HS458, (Own.nil _), h, (by kernel_rfl)⟩ ?_
          clear h
          rintro n399 _ W402 ⟨f400, A406, c407, s408, column405, x411, j404, L401, HS403, HO409, h, rfl⟩ K397 hK398
          obtain _ | n399 := n399
          · exact nomatch h
          simp only [sensor_Bleed.l2] at h
          refine wp_seq_k (fun K412 hK413 => ?_)
          refine wp_region_lit ?_
          refine seqS1 (a' := ⟨#[.agg #[.int .i64 s1.W, .int .i64 s1.H, .slice A2 s1.Bias.length c3, .slice A5 s1.Dark.length c6, .slice A8 s1.Flat.length c9, .int .i64 s1.Full, .int .i64 s1.Gain, .int .i64 s1.Noise], .slice A12 q11.length c13, .pointer (some ⟨b17, 0, none⟩), .pointer (some ⟨b21, 0, none⟩), .slice (some ⟨b59, 0, none⟩) out361.length ((q11.length : Int)).toNat, .int .i64 lost365, .int .i64 0, .int .i64 vt29, (j165 0), (j165 1), .pointer (some ⟨b175, 0, none⟩), .int .i64 x366, .slice A406 column405.length c407, (j404 0), .agg #[.int .i64 s1.W, .int .i64 s1.H, .slice A2 s1.Bias.length c3, .slice A5 s1.Dark.length c6, .slice A8 s1.Flat.length c9, .int .i64 s1.Full, .int .i64 s1.Gain, .int .i64 s1.Noise], .slice A12 q11.length c13, .int .i64 (q11.length : Int), .int .i64 vt29, .int .i64 vt29, .bool false, undef, .slice A12 q11.length c13, .bool false, .slice A12 q11.length c13, .int .i64 (q11.length : Int), .slice (some ⟨b59, 0, none⟩) (List.replicate ((q11.length : Int)).toNat (0 : Int)).length ((q11.length : Int)).toNat, .slice A12 q11.length c13, .int .i64 (q11.length : Int), (j165 2), (j165 3), (j165 4), (j165 5), (j165 6), (j165 7), (j165 8), (j165 9), (j165 10), (j165 11), (j165 12), (j165 13), (j165 14), .func (.func 46) #[] #[.pointer (some ⟨b21, 0, none⟩), .pointer (some ⟨b17, 0, none⟩)], .pointer (some ⟨b17, 0, none⟩), .int .i64 s1.W, .int .i64 x366, .bool true, .int .i64 x366, .pointer (some ⟨b17, 1, none⟩), .int .i64 s1.H, .int .i64 x411, .bool (decide (x411 < s1.H)), (j404 2), (j404 3), (j404 4), (j404 5), (j404 6), (j404 7), (j404 8), (j404 9), (j404 10), (j404 11), (j404 12), (j360 20), (j360 21), (j360 22), (j360 23), (j360 24), (j360 25), (j360 26), (j360 27), (j360 28), (j360 29), (j360 30), (j360 31), (j360 32), (j360 33), (j360 34), (j360 35), (j360 36), undef, undef], []⟩) (by kernel_rfl) ?_
          refine wpList_nil ?_
          refine hK413 _ _ ?_
          refine wp_seq_k (fun K414 hK415 => ?_)
          have hq_ := ite_some h; clear h; rcases hq_ with ⟨c417, h⟩ | ⟨c417, h⟩
          · have c417 : x411 < s1.H := c417
            refine wpRwI 50 (x := (decide (x411 < s1.H))) (v := true) (by kernel_rfl) (decide_eq_true c417) ?_
            refine condT (by kernel_rfl) ?_
            refine wp_skip ?_
            refine hK415 _ _ ?_
            refine wp_seq_k (fun K418 hK419 => ?_)
            refine blockK (fun B420 hx421 hn422 hr423 ho424 hp425 => ?_)
            refine wp_seq_k (fun K427 hK428 => ?_)
            refine wp_region_lit ?_
            refine seqS2 (a' := ⟨#[.agg #[.int .i64 s1.W, .int .i64 s1.H, .slice A2 s1.Bias.length c3, .slice A5 s1.Dark.length c6, .slice A8 s1.Flat.length c9, .int .i64 s1.Full, .int .i64 s1.Gain, .int .i64 s1.Noise], .slice A12 q11.length c13, .pointer (some ⟨b17, 0, none⟩), .pointer (some ⟨b21, 0, none⟩), .slice (some ⟨b59, 0, none⟩) out361.length ((q11.length : Int)).toNat, .int .i64 lost365, .int .i64 0, .int .i64 vt29, (j165 0), (j165 1), .pointer (some ⟨b175, 0, none⟩), .int .i64 x366, .slice A406 column405.length c407, .int .i64 x411, .agg #[.int .i64 s1.W, .int .i64 s1.H, .slice A2 s1.Bias.length c3, .slice A5 s1.Dark.length c6, .slice A8 s1.Flat.length c9, .int .i64 s1.Full, .int .i64 s1.Gain, .int .i64 s1.Noise], .slice A12 q11.length c13, .int .i64 (q11.length : Int), .int .i64 vt29, .int .i64 vt29, .bool false, undef, .slice A12 q11.length c13, .bool false, .slice A12 q11.length c13, .int .i64 (q11.length : Int), .slice (some ⟨b59, 0, none⟩) (List.replicate ((q11.length : Int)).toNat (0 : Int)).length ((q11.length : Int)).toNat, .slice A12 q11.length c13, .int .i64 (q11.length : Int), (j165 2), (j165 3), (j165 4), (j165 5), (j165 6), (j165 7), (j165 8), (j165 9), (j165 10), (j165 11), (j165 12), (j165 13), (j165 14), .func (.func 46) #[] #[.pointer (some ⟨b21, 0, none⟩), .pointer (some ⟨b17, 0, none⟩)], .pointer (some ⟨b17, 0, none⟩), .int .i64 s1.W, .int .i64 x366, .bool true, .int .i64 x366, .pointer (some ⟨b17, 1, none⟩), .int .i64 s1.H, .int .i64 x411, .bool true, .int .i64 x411, (j404 3), (j404 4), (j404 5), (j404 6), (j404 7), (j404 8), (j404 9), (j404 10), (j404 11), (j404 12), (j360 20), (j360 21), (j360 22), (j360 23), (j360 24), (j360 25), (j360 26), (j360 27), (j360 28), (j360 29), (j360 30), (j360 31), (j360 32), (j360 33), (j360 34), (j360 35), (j360 36), undef, undef], []⟩) (by kernel_rfl) ?_
            refine wpList_nil ?_
            refine hK428 _ _ ?_
            refine wp_region_lit ?_
            refine seqL3 (by kernel_rfl) ?_
            refine seqK rfl (does_run (run_load rfl Try.underlying3 rfl (by kernel_rfl : _ = Value.pointer (some ⟨b17, 0, none⟩)) (HS403.u4.cell 0)) ?_)
            refine seqL3 (by kernel_rfl) ?_
            refine seqK rfl (does_lit (e := (tInt .i64)) (E := 3) (vs := #[(0, Value.int .i64 (w64 ((w64 (x411 * s1.W)) + x366)))]) (cs := #[.int .i64 (w64 ((w64 (x411 * s1.W)) + x366))]) (xs := ([w64 ((w64 (x411 * s1.W)) + x366)] : List Int)) rfl Try.underlying40 (by kernel_rfl) (by kernel_rfl) ⟨[.int .i64 (w64 ((w64 (x411 * s1.W)) + x366))], _, rfl, rfl, rfl⟩ rfl HS403 ?_ (by decide))
            intro b429 W430 s431 HS432 _ HO433
            have hq_ := guard_some h; clear h; obtain ⟨c435, h⟩ := hq_
            have c435 : (column405.length + 1) * 8 ≤ 140737488355328 := c435
            have HS436 := HS432.u1
            have HS437 := HS436.u1
            refine seqK rfl (does_append1 (e := (tInt .i64)) (E := 3) (xs := column405) (ys := ([w64 ((w64 (x411 * s1.W)) + x366)] : List Int)) rfl (by kernel_rfl : _ = Value.slice A406 column405.length c407) (by kernel_rfl : _ = Value.slice (some ⟨b429, 0, none⟩) ([w64 ((w64 (x411 * s1.W)) + x366)] : List Int).length 1) Try.underlying40 inf3 HO409 HO433 HS437 c435 (lim63 c435 (by decide)) ?_)
            intro A438 c439 s440 W441 HS442 HO443
            refine seqS1 (a' := ⟨#[.agg #[.int .i64 s1.W, .int .i64 s1.H, .slice A2 s1.Bias.length c3, .slice A5 s1.Dark.length c6, .slice A8 s1.Flat.length c9, .int .i64 s1.Full, .int .i64 s1.Gain, .int .i64 s1.Noise], .slice A12 q11.length c13, .pointer (some ⟨b17, 0, none⟩), .pointer (some ⟨b21, 0, none⟩), .slice (some ⟨b59, 0, none⟩) out361.length ((q11.length : Int)).toNat, .int .i64 lost365, .int .i64 0, .int .i64 vt29, (j165 0), (j165 1), .pointer (some ⟨b175, 0, none⟩), .int .i64 x366, .slice A438 (column405 ++ ([w64 ((w64 (x411 * s1.W)) + x366)] : List Int)).length c439, .int .i64 x411, .agg #[.int .i64 s1.W, .int .i64 s1.H, .slice A2 s1.Bias.length c3, .slice A5 s1.Dark.length c6, .slice A8 s1.Flat.length c9, .int .i64 s1.Full, .int .i64 s1.Gain, .int .i64 s1.Noise], .slice A12 q11.length c13, .int .i64 (q11.length : Int), .int .i64 vt29, .int .i64 vt29, .bool false, undef, .slice A12 q11.length c13, .bool false, .slice A12 q11.length c13, .int .i64 (q11.length : Int), .slice (some ⟨b59, 0, none⟩) (List.replicate ((q11.length : Int)).toNat (0 : Int)).length ((q11.length : Int)).toNat, .slice A12 q11.length c13, .int .i64 (q11.length : Int), (j165 2), (j165 3), (j165 4), (j165 5), (j165 6), (j165 7), (j165 8), (j165 9), (j165 10), (j165 11), (j165 12), (j165 13), (j165 14), .func (.func 46) #[] #[.pointer (some ⟨b21, 0, none⟩), .pointer (some ⟨b17, 0, none⟩)], .pointer (some ⟨b17, 0, none⟩), .int .i64 s1.W, .int .i64 x366, .bool true, .int .i64 x366, .pointer (some ⟨b17, 1, none⟩), .int .i64 s1.H, .int .i64 x411, .bool true, .int .i64 x411, .slice A406 column405.length c407, .int .i64 x411, .pointer (some ⟨b17, 0, none⟩), .int .i64 s1.W, .int .i64 (w64 (x411 * s1.W)), .int .i64 x366, .int .i64 (w64 ((w64 (x411 * s1.W)) + x366)), .slice (some ⟨b429, 0, none⟩) ([w64 ((w64 (x411 * s1.W)) + x366)] : List Int).length 1, .slice A438 (column405 ++ ([w64 ((w64 (x411 * s1.W)) + x366)] : List Int)).length c439, (j404 12), (j360 20), (j360 21), (j360 22), (j360 23), (j360 24), (j360 25), (j360 26), (j360 27), (j360 28), (j360 29), (j360 30), (j360 31), (j360 32), (j360 33), (j360 34), (j360 35), (j360 36), undef, undef], []⟩) (by kernel_rfl) ?_
            refine wpList_nil ?_
            refine hn422 _ _ ?_
            refine hK419 _ _ ?_
            refine wp_region_lit ?_
            refine seqS2 (a' := ⟨#[.agg #[.int .i64 s1.W, .int .i64 s1.H, .slice A2 s1.Bias.length c3, .slice A5 s1.Dark.length c6, .slice A8 s1.Flat.length c9, .int .i64 s1.Full, .int .i64 s1.Gain, .int .i64 s1.Noise], .slice A12 q11.length c13, .pointer (some ⟨b17, 0, none⟩), .pointer (some ⟨b21, 0, none⟩), .slice (some ⟨b59, 0, none⟩) out361.length ((q11.length : Int)).toNat, .int .i64 lost365, .int .i64 0, .int .i64 vt29, (j165 0), (j165 1), .pointer (some ⟨b175, 0, none⟩), .int .i64 x366, .slice A438 (column405 ++ ([w64 ((w64 (x411 * s1.W)) + x366)] : List Int)).length c439, .int .i64 x411, .agg #[.int .i64 s1.W, .int .i64 s1.H, .slice A2 s1.Bias.length c3, .slice A5 s1.Dark.length c6, .slice A8 s1.Flat.length c9, .int .i64 s1.Full, .int .i64 s1.Gain, .int .i64 s1.Noise], .slice A12 q11.length c13, .int .i64 (q11.length : Int), .int .i64 vt29, .int .i64 vt29, .bool false, undef, .slice A12 q11.length c13, .bool false, .slice A12 q11.length c13, .int .i64 (q11.length : Int), .slice (some ⟨b59, 0, none⟩) (List.replicate ((q11.length : Int)).toNat (0 : Int)).length ((q11.length : Int)).toNat, .slice A12 q11.length c13, .int .i64 (q11.length : Int), (j165 2), (j165 3), (j165 4), (j165 5), (j165 6), (j165 7), (j165 8), (j165 9), (j165 10), (j165 11), (j165 12), (j165 13), (j165 14), .func (.func 46) #[] #[.pointer (some ⟨b21, 0, none⟩), .pointer (some ⟨b17, 0, none⟩)], .pointer (some ⟨b17, 0, none⟩), .int .i64 s1.W, .int .i64 x366, .bool true, .int .i64 x366, .pointer (some ⟨b17, 1, none⟩), .int .i64 s1.H, .int .i64 (w64 (x411 + 1)), .bool true, .int .i64 x411, .slice A406 column405.length c407, .int .i64 x411, .pointer (some ⟨b17, 0, none⟩), .int .i64 s1.W, .int .i64 (w64 (x411 * s1.W)), .int .i64 x366, .int .i64 (w64 ((w64 (x411 * s1.W)) + x366)), .slice (some ⟨b429, 0, none⟩) ([w64 ((w64 (x411 * s1.W)) + x366)] : List Int).length 1, .slice A438 (column405 ++ ([w64 ((w64 (x411 * s1.W)) + x366)] : List Int)).length c439, .int .i64 (w64 (x411 + 1)), (j360 20), (j360 21), (j360 22), (j360 23), (j360 24), (j360 25), (j360 26), (j360 27), (j360 28), (j360 29), (j360 30), (j360 31), (j360 32), (j360 33), (j360 34), (j360 35), (j360 36), undef, undef], []⟩) (by kernel_rfl) ?_
            refine wpList_nil ?_
            refine hK398 n399 _ _ (Nat.lt_succ_self _) ?_
            exact ⟨f400, A438, c439, s440, (column405 ++ ([w64 ((w64 (x411 * s1.W)) + x366)] : List Int)), (w64 (x411 + 1)), (fun i_ => [Value.int .i64 x411, Value.bool true, Value.int .i64 x411, Value.slice A406 column405.length c407, Value.int .i64 x411, Value.pointer (some ⟨b17, 0, none⟩), Value.int .i64 s1.W, Value.int .i64 (w64 (x411 * s1.W)), Value.int .i64 x366, Value.int .i64 (w64 ((w64 (x411 * s1.W)) + x366)), Value.slice (some ⟨b429, 0, none⟩) ([w64 ((w64 (x411 * s1.W)) + x366)] : List Int).length 1, Value.slice A438 (column405 ++ ([w64 ((w64 (x411 * s1.W)) + x366)] : List Int)).length c439, Value.int .i64 (w64 (x411 + 1))].getD i_ undef), L401, HS442, HO443, h, (by kernel_rfl)⟩
          · have c417 : ¬ (x411 < s1.H) := c417
            refine wpRwI 50 (x := (decide (x411 < s1.H))) (v := false) (by kernel_rfl) (decide_eq_false c417) ?_
            refine condF (by kernel_rfl) ?_
            refine wp_exit ?_
            refine hx391 _ _ ?_
            exact J456 f400 A406 c407 s408 column405 (fun i_ => [(j404 0), Value.int .i64 x411, Value.bool false, (j404 2), (j404 3), (j404 4), (j404 5), (j404 6), (j404 7), (j404 8), (j404 9), (j404 10), (j404 11), (j404 12)].getD i_ undef) W402 _ L401 h HS403 HO409 (by kernel_rfl)
        · have c372 : ¬ (x366 < s1.W) := c372
          refine wpRwI 45 (x := (decide (x366 < s1.W))) (v := false) (by kernel_rfl) (decide_eq_false c372) ?_
          refine condF (by kernel_rfl) ?_
          refine wp_exit ?_
          refine hx186 _ _ ?_
          exact J528 f356 s362 out361 lost365 (fun i_ => [(j360 0), (j360 1), (j360 2), Value.int .i64 x366, Value.bool false, (j360 4), (j360 5), (j360 6), (j360 7), (j360 8), (j360 9), (j360 10), (j360 11), (j360 12), (j360 13), (j360 14), (j360 15), (j360 16), (j360 17), (j360 18), (j360 19), (j360 20), (j360 21), (j360 22), (j360 23), (j360 24), (j360 25), (j360 26), (j360 27), (j360 28), (j360 29), (j360 30), (j360 31), (j360 32), (j360 33), (j360 34), (j360 35), (j360 36)].getD i_ undef) W358 _ L357 h HS359 HO363 HL364 (by kernel_rfl)
      clear h; have h := hv170; clear hv170
      refine loopK (fun n_ a_ w_ => ∃ (f120 : FM) (s126 : Seg) (out125 : List Int) (x129 : Int) (j124 : Nat → Value), FM.le f47 f120 ∧ St t w_ f120 (s126 :: [(b21, .cells #[.slice A12 q11.length c13] 48 (0, 0))] :: [(b17, .cells #[.int .i64 s1.W, .int .i64 s1.H, .slice A2 s1.Bias.length c3, .slice A5 s1.Dark.length c6, .slice A8 s1.Flat.length c9, .int .i64 s1.Full, .int .i64 s1.Gain, .int .i64 s1.Noise] 46 (0, 0))] :: H) ∧ Own (tInt .i64) 22 f120 (some ⟨b59, 0, none⟩) ((q11.length : Int)).toNat s126 out125 ∧ out125.length = (List.replicate ((q11.length : Int)).toNat (0 : Int)).length ∧ sensor_Bleed.l0 k q11 s1 n_ out125 x129 = some o116 ∧ a_ = ⟨#[.agg #[.int .i64 s1.W, .int .i64 s1.H, .slice A2 s1.Bias.length c3, .slice A5 s1.Dark.length c6, .slice A8 s1.Flat.length c9, .int .i64 s1.Full, .int .i64 s1.Gain, .int .i64 s1.Noise], .slice A12 q11.length c13, .pointer (some ⟨b17, 0, none⟩), .pointer (some ⟨b21, 0, none⟩), .slice (some ⟨b59, 0, none⟩) out125.length ((q11.length : Int)).toNat, .int .i64 0, .int .i64 0, .int .i64 vt29, (j124 0), (j124 1), undef, undef, undef, undef, .agg #[.int .i64 s1.W, .int .i64 s1.H, .slice A2 s1.Bias.length c3, .slice A5 s1.Dark.length c6, .slice A8 s1.Flat.length c9, .int .i64 s1.Full, .int .i64 s1.Gain, .int .i64 s1.Noise], .slice A12 q11.length c13, .int .i64 (q11.length : Int), .int .i64 vt29, .int .i64 vt29, .bool false, undef, .slice A12 q11.length c13, .bool false, .slice A12 q11.length c13, .int .i64 (q11.length : Int), .slice (some ⟨b59, 0, none⟩) (List.replicate ((q11.length : Int)).toNat (0 : Int)).length ((q11.length : Int)).toNat, .slice A12 q11.length c13, .int .i64 (q11.length : Int), .int .i64 x129, (j124 2), (j124 3), (j124 4), (j124 5), (j124 6), (j124 7), (j124 8), (j124 9), (j124 10), (j124 11), (j124 12), (j124 13), undef, undef, undef, undef, undef, undef, undef, undef, undef, undef, undef, undef, undef, undef, undef, undef, undef, undef, undef, undef, undef, undef, undef, undef, undef, undef, undef, undef, undef, undef, undef, undef, undef, undef, undef, undef, undef, undef, undef, undef], []⟩) k ⟨f47, s61, (List.replicate ((q11.length : Int)).toNat (0 : Int)), 0, (fun i_ => [undef, undef, undef, undef, undef, undef, undef, undef, undef, undef, undef, undef, undef, undef].getD i_ undef), (FM.le.refl _), HS62, HO63, rfl, h, (by kernel_rfl)⟩ ?_
      clear h
      rintro n119 _ W122 ⟨f120, s126, out125, x129, j124, L121, HS123, HO127, HL128, h, rfl⟩ K117 hK118
      obtain _ | n119 := n119
      · exact nomatch h
      simp only [sensor_Bleed.l0] at h
      refine wp_seq_k (fun K130 hK131 => ?_)
      refine wp_region_lit ?_
      refine seqS1 (a' := ⟨#[.agg #[.int .i64 s1.W, .int .i64 s1.H, .slice A2 s1.Bias.length c3, .slice A5 s1.Dark.length c6, .slice A8 s1.Flat.length c9, .int .i64 s1.Full, .int .i64 s1.Gain, .int .i64 s1.Noise], .slice A12 q11.length c13, .pointer (some ⟨b17, 0, none⟩), .pointer (some ⟨b21, 0, none⟩), .slice (some ⟨b59, 0, none⟩) out125.length ((q11.length : Int)).toNat, .int .i64 0, .int .i64 0, .int .i64 vt29, (j124 0), (j124 1), undef, undef, undef, undef, .agg #[.int .i64 s1.W, .int .i64 s1.H, .slice A2 s1.Bias.length c3, .slice A5 s1.Dark.length c6, .slice A8 s1.Flat.length c9, .int .i64 s1.Full, .int .i64 s1.Gain, .int .i64 s1.Noise], .slice A12 q11.length c13, .int .i64 (q11.length : Int), .int .i64 vt29, .int .i64 vt29, .bool false, undef, .slice A12 q11.length c13, .bool false, .slice A12 q11.length c13, .int .i64 (q11.length : Int), .slice (some ⟨b59, 0, none⟩) (List.replicate ((q11.length : Int)).toNat (0 : Int)).length ((q11.length : Int)).toNat, .slice A12 q11.length c13, .int .i64 (q11.length : Int), .int .i64 x129, .bool (decide (x129 < (q11.length : Int))), (j124 3), (j124 4), (j124 5), (j124 6), (j124 7), (j124 8), (j124 9), (j124 10), (j124 11), (j124 12), (j124 13), undef, undef, undef, undef, undef, undef, undef, undef, undef, undef, undef, undef, undef, undef, undef, undef, undef, undef, undef, undef, undef, undef, undef, undef, undef, undef, undef, undef, undef, undef, undef, undef, undef, undef, undef, undef, undef, undef, undef, undef], []⟩) (by kernel_rfl) ?_
      refine wpList_nil ?_
      refine hK131 _ _ ?_
      refine wp_seq_k (fun K132 hK133 => ?_)
      have hq_ := ite_some h; clear h; rcases hq_ with ⟨c135, h⟩ | ⟨c135, h⟩
      · have c135 : x129 < (q11.length : Int) := c135
        refine wpRwI 29 (x := (decide (x129 < (q11.length : Int)))) (v := true) (by kernel_rfl) (decide_eq_true c135) ?_
        refine condT (by kernel_rfl) ?_
        refine wp_skip ?_
        refine hK133 _ _ ?_
        refine wp_seq_k (fun K136 hK137 => ?_)
        refine blockK (fun B138 hx139 hn140 hr141 ho142 hp143 => ?_)
        refine wp_seq_k (fun K145 hK146 => ?_)
        refine wp_region_lit ?_
        have hq_ := guard_some h; clear h; obtain ⟨c147, h⟩ := hq_
        have c147 : 0 ≤ x129 := c147
        obtain ⟨b151, of152, cs148, rfl, hr149, hc150⟩ := (HR14.mono (L32.trans (L48.trans L121))).at (i := x129) c147 c135
        obtain rfl := hr149
        refine seqL1 (by kernel_rfl) ?_
        refine seqK rfl (does_run (run_index (sz := 1) rfl Try.underlying48 (by kernel_rfl) (by kernel_rfl : _ = Value.slice (some ⟨b151, of152, none⟩) q11.length c13) (by kernel_rfl : _ = Value.int .i64 x129) c147 c135 W122) ?_)
        refine seqK rfl (does_run (run_load rfl Try.underlying22 rfl (by kernel_rfl : _ = Value.pointer (some ⟨b151, of152 + (x129 : Int).toNat * 1, none⟩)) ((hc150 (FM.le.refl _) HS123) 0 (by decide))) ?_)
        refine seqS2 (a' := ⟨#[.agg #[.int .i64 s1.W, .int .i64 s1.H, .slice A2 s1.Bias.length c3, .slice A5 s1.Dark.length c6, .slice A8 s1.Flat.length c9, .int .i64 s1.Full, .int .i64 s1.Gain, .int .i64 s1.Noise], .slice (some ⟨b151, of152, none⟩) q11.length c13, .pointer (some ⟨b17, 0, none⟩), .pointer (some ⟨b21, 0, none⟩), .slice (some ⟨b59, 0, none⟩) out125.length ((q11.length : Int)).toNat, .int .i64 0, .int .i64 0, .int .i64 vt29, .int .i64 x129, .int .i64 (rd q11 x129), undef, undef, undef, undef, .agg #[.int .i64 s1.W, .int .i64 s1.H, .slice A2 s1.Bias.length c3, .slice A5 s1.Dark.length c6, .slice A8 s1.Flat.length c9, .int .i64 s1.Full, .int .i64 s1.Gain, .int .i64 s1.Noise], .slice (some ⟨b151, of152, none⟩) q11.length c13, .int .i64 (q11.length : Int), .int .i64 vt29, .int .i64 vt29, .bool false, undef, .slice (some ⟨b151, of152, none⟩) q11.length c13, .bool false, .slice (some ⟨b151, of152, none⟩) q11.length c13, .int .i64 (q11.length : Int), .slice (some ⟨b59, 0, none⟩) (List.replicate ((q11.length : Int)).toNat (0 : Int)).length ((q11.length : Int)).toNat, .slice (some ⟨b151, of152, none⟩) q11.length c13, .int .i64 (q11.length : Int), .int .i64 x129, .bool true, .int .i64 x129, .pointer (some ⟨b151, of152 + (x129 : Int).toNat * 1, none⟩), .int .i64 (rd q11 x129), (j124 6), (j124 7), (j124 8), (j124 9), (j124 10), (j124 11), (j124 12), (j124 13), undef, undef, undef, undef, undef, undef, undef, undef, undef, undef, undef, undef, undef, undef, undef, undef, undef, undef, undef, undef, undef, undef, undef, undef, undef, undef, undef, undef, undef, undef, undef, undef, undef, undef, undef, undef, undef, undef, undef, undef], []⟩) (by kernel_rfl) ?_
        refine wpList_nil ?_
        refine hK146 _ _ ?_
        refine wp_region_lit ?_
        refine seqL4 (by kernel_rfl) ?_
        refine seqK rfl (does_run (run_load rfl Try.underlying22 rfl (by kernel_rfl : _ = Value.pointer (some ⟨b17, 5, none⟩)) (HS123.u2.cell 5)) ?_)
        have hq_ := guard_some h; clear h; obtain ⟨c153, h⟩ := hq_
        have c153 : x129 < (out125.length : Int) := c153
        obtain ⟨cs154, hr155, hc156⟩ := HO127.at' (i := x129) c147 c153
        obtain rfl := hr155
        refine seqL1 (by kernel_rfl) ?_
        refine seqK rfl (does_run (run_index (sz := 1) rfl Try.underlying48 (by kernel_rfl) (by kernel_rfl : _ = Value.slice (some ⟨b59, 0, none⟩) out125.length ((q11.length : Int)).toNat) (by kernel_rfl : _ = Value.int .i64 x129) c147 c153 W122) ?_)
        refine seqK rfl (does_put (e := (tInt .i64)) (E := 22) (vs := [.int .i64 (mn (rd q11 x129) s1.Full)]) (u := mn (rd q11 x129) s1.Full) (i := x129) rfl (by kernel_rfl) HO127 HS123 rfl (by kernel_rfl : _ = Value.pointer (some ⟨b59, 0 + (x129 : Int).toNat * 1, none⟩)) (by kernel_rfl : _ = Value.int .i64 (mn (rd q11 x129) s1.Full)) rfl rfl c147 c153 ?_)
        intro W157 s158 HS159 HO160
        refine seqRwS 4 (A := (some ⟨b59, 0, none⟩)) (m := out125.length) (n := (out125.set (x129).toNat (mn (rd q11 x129) s1.Full)).length) (c := ((q11.length : Int)).toNat) (by kernel_rfl) (List.length_set).symm ?_
        refine seqRwS 33 (A := (some ⟨b59, 0, none⟩)) (m := out125.length) (n := (out125.set (x129).toNat (mn (rd q11 x129) s1.Full)).length) (c := ((q11.length : Int)).toNat) (by kernel_rfl) (List.length_set).symm ?_
        refine wpList_nil ?_
        refine hn140 _ _ ?_
        refine hK137 _ _ ?_
        refine wp_region_lit ?_
        refine seqS2 (a' := ⟨#[.agg #[.int .i64 s1.W, .int .i64 s1.H, .slice A2 s1.Bias.length c3, .slice A5 s1.Dark.length c6, .slice A8 s1.Flat.length c9, .int .i64 s1.Full, .int .i64 s1.Gain, .int .i64 s1.Noise], .slice (some ⟨b151, of152, none⟩) q11.length c13, .pointer (some ⟨b17, 0, none⟩), .pointer (some ⟨b21, 0, none⟩), .slice (some ⟨b59, 0, none⟩) (out125.set (x129).toNat (mn (rd q11 x129) s1.Full)).length ((q11.length : Int)).toNat, .int .i64 0, .int .i64 0, .int .i64 vt29, .int .i64 x129, .int .i64 (rd q11 x129), undef, undef, undef, undef, .agg #[.int .i64 s1.W, .int .i64 s1.H, .slice A2 s1.Bias.length c3, .slice A5 s1.Dark.length c6, .slice A8 s1.Flat.length c9, .int .i64 s1.Full, .int .i64 s1.Gain, .int .i64 s1.Noise], .slice (some ⟨b151, of152, none⟩) q11.length c13, .int .i64 (q11.length : Int), .int .i64 vt29, .int .i64 vt29, .bool false, undef, .slice (some ⟨b151, of152, none⟩) q11.length c13, .bool false, .slice (some ⟨b151, of152, none⟩) q11.length c13, .int .i64 (q11.length : Int), .slice (some ⟨b59, 0, none⟩) (List.replicate ((q11.length : Int)).toNat (0 : Int)).length ((q11.length : Int)).toNat, .slice (some ⟨b151, of152, none⟩) q11.length c13, .int .i64 (q11.length : Int), .int .i64 (w64 (x129 + 1)), .bool true, .int .i64 x129, .pointer (some ⟨b151, of152 + (x129 : Int).toNat * 1, none⟩), .int .i64 (rd q11 x129), .slice (some ⟨b59, 0, none⟩) (out125.set (x129).toNat (mn (rd q11 x129) s1.Full)).length ((q11.length : Int)).toNat, .int .i64 x129, .int .i64 (rd q11 x129), .pointer (some ⟨b17, 5, none⟩), .int .i64 s1.Full, .int .i64 (mn (rd q11 x129) s1.Full), .pointer (some ⟨b59, 0 + (x129 : Int).toNat * 1, none⟩), .int .i64 (w64 (x129 + 1)), undef, undef, undef, undef, undef, undef, undef, undef, undef, undef, undef, undef, undef, undef, undef, undef, undef, undef, undef, undef, undef, undef, undef, undef, undef, undef, undef, undef, undef, undef, undef, undef, undef, undef, undef, undef, undef, undef, undef, undef], []⟩) (by kernel_rfl) ?_
        refine wpList_nil ?_
        refine hK118 n119 _ _ (Nat.lt_succ_self _) ?_
        exact ⟨f120, s158, (out125.set (x129).toNat (mn (rd q11 x129) s1.Full)), (w64 (x129 + 1)), (fun i_ => [Value.int .i64 x129, Value.int .i64 (rd q11 x129), Value.bool true, Value.int .i64 x129, Value.pointer (some ⟨b151, of152 + (x129 : Int).toNat * 1, none⟩), Value.int .i64 (rd q11 x129), Value.slice (some ⟨b59, 0, none⟩) (out125.set (x129).toNat (mn (rd q11 x129) s1.Full)).length ((q11.length : Int)).toNat, Value.int .i64 x129, Value.int .i64 (rd q11 x129), Value.pointer (some ⟨b17, 5, none⟩), Value.int .i64 s1.Full, Value.int .i64 (mn (rd q11 x129) s1.Full), Value.pointer (some ⟨b59, 0 + (x129 : Int).toNat * 1, none⟩), Value.int .i64 (w64 (x129 + 1))].getD i_ undef), L121, HS159, HO160, (List.length_set.trans HL128), h, (by kernel_rfl)⟩
      · have c135 : ¬ (x129 < (q11.length : Int)) := c135
        refine wpRwI 29 (x := (decide (x129 < (q11.length : Int)))) (v := false) (by kernel_rfl) (decide_eq_false c135) ?_
        refine condF (by kernel_rfl) ?_
        refine wp_exit ?_
        refine hx70 _ _ ?_
        exact J171 f120 s126 out125 (fun i_ => [(j124 0), (j124 1), Value.int .i64 x129, Value.bool false, (j124 3), (j124 4), (j124 5), (j124 6), (j124 7), (j124 8), (j124 9), (j124 10), (j124 11), (j124 12), (j124 13)].getD i_ undef) W122 _ L121 h HS123 HO127 HL128 (by kernel_rfl)

set_option maxRecDepth 100000 in
set_option maxHeartbeats 4000000 in
theorem slices_Equal_Quanta.calls (k : Nat) (A2 : Option Addr) (c3 : Nat) (A6 : Option Addr) (c7 : Nat) (s11 : List Int) (s25 : List Int) {t w : World} {f : FM} {H : List Seg} (HS : St t w f (H)) (HR4 : SlR (tInt .i64) f A2 c3 s11) (HR8 : SlR (tInt .i64) f A6 c7 s25) (r1 : Bool) (h : slices_Equal_Quanta k s11 s25 = some r1) :
    Calls Try.prog 51 #[.slice A2 s11.length c3, .slice A6 s25.length c7] w (fun e w' => ∃ (g : FM), e = .returned (Value.bool r1) ∧ FM.le f g ∧ St t w' g (H)) := by
  unfold slices_Equal_Quanta at h
  refine enter Try.func51 rfl (tm := #[.slice A2 s11.length c3, .slice A6 s25.length c7, undef, undef, undef, undef, undef, undef, undef, undef, undef, undef, undef, undef, undef, undef, undef, undef, undef, undef, undef, undef, undef, undef, undef, undef]) (by kernel_rfl) ?_
  intro B hret hnor hnp
  refine wp_seq_k (fun K9 hK10 => ?_)
  refine wp_region_lit ?_
  refine seqS1 (a' := ⟨#[.slice A2 s11.length c3, .slice A6 s25.length c7, undef, undef, .bool false, undef, undef, undef, undef, undef, undef, undef, undef, undef, undef, undef, undef, undef, undef, undef, undef, undef, undef, undef, undef, undef], []⟩) (by kernel_rfl) ?_
  refine wpList_nil ?_
  refine hK10 _ _ ?_
  refine wp_seq_k (fun K11 hK12 => ?_)
  refine wp_seq_k (fun K13 hK14 => ?_)
  refine wp_region_lit ?_
  refine seqS5 (a' := ⟨#[.slice A2 s11.length c3, .slice A6 s25.length c7, undef, undef, .bool false, undef, .slice A2 s11.length c3, .int .i64 (s11.length : Int), .slice A6 s25.length c7, .int .i64 (s25.length : Int), .bool ((s11.length : Int) != (s25.length : Int)), undef, undef, undef, undef, undef, undef, undef, undef, undef, undef, undef, undef, undef, undef, undef], []⟩) (by kernel_rfl) ?_
  refine wpList_nil ?_
  refine hK14 _ _ ?_
  have hq_ := ite_some h; clear h; rcases hq_ with ⟨c16, h⟩ | ⟨c16, h⟩
  · have c16 : (s11.length : Int) ≠ (s25.length : Int) := c16
    refine wpRwI 10 (x := ((s11.length : Int) != (s25.length : Int))) (v := true) (by kernel_rfl) (bne_iff_ne.mpr c16) ?_
    refine condT (by kernel_rfl) ?_
    refine wp_seq_k (fun K17 hK18 => ?_)
    refine wp_region_lit ?_
    refine seqS1 (a' := ⟨#[.slice A2 s11.length c3, .slice A6 s25.length c7, undef, undef, .bool false, undef, .slice A2 s11.length c3, .int .i64 (s11.length : Int), .slice A6 s25.length c7, .int .i64 (s25.length : Int), .bool true, undef, undef, undef, undef, undef, undef, undef, undef, undef, undef, undef, undef, undef, undef, undef], []⟩) (by kernel_rfl) ?_
    refine wpList_nil ?_
    refine hK18 _ _ ?_
    refine wp_ret ?_
    refine hret _ _ ?_
    refine ends_still (v := Value.bool false) (by kernel_rfl) (by kernel_rfl) ?_
    injection h with h
    subst h
    exact ⟨f, rfl, FM.le.refl _, HS⟩
  · have c16 : ¬ ((s11.length : Int) ≠ (s25.length : Int)) := c16
    refine wpRwI 10 (x := ((s11.length : Int) != (s25.length : Int))) (v := false) (by kernel_rfl) (bne_eq_false_iff_eq.mpr (Decidable.of_not_not c16)) ?_
    refine condF (by kernel_rfl) ?_
    refine wp_skip ?_
    refine hK12 _ _ ?_
    refine wp_seq_k (fun K19 hK20 => ?_)
    refine wp_seq_k (fun K21 hK22 => ?_)
    refine wp_region_lit ?_
    refine seqS3 (a' := ⟨#[.slice A2 s11.length c3, .slice A6 s25.length c7, undef, undef, .bool false, undef, .slice A2 s11.length c3, .int .i64 (s11.length : Int), .slice A6 s25.length c7, .int .i64 (s25.length : Int), .bool false, .slice A2 s11.length c3, .int .i64 (s11.length : Int), .int .i64 0, undef, undef, undef, undef, undef, undef, undef, undef, undef, undef, undef, undef], []⟩) (by kernel_rfl) ?_
    refine wpList_nil ?_
    refine hK22 _ _ ?_
    refine blockK (fun B23 hx24 hn25 hr26 ho27 hp28 => ?_)
    have hq_ := bind_some h; clear h; obtain ⟨o29, hv81, h⟩ := hq_
    have JR83 : ∀ z_, some (Sum.inl z_) = some o29 → some z_ = some r1 := by
      intro z_ e_; injection e_ with e_; subst e_; exact h
    have J82 : ∀ (f76 : FM) (j80 : Nat → Value) (W78 : World) (a_ : Act), FM.le f f76 → some (Sum.inr ()) = some o29 → St t W78 f76 (H) → a_ = ⟨#[.slice A2 s11.length c3, .slice A6 s25.length c7, undef, undef, (j80 0), (j80 1), .slice A2 s11.length c3, .int .i64 (s11.length : Int), .slice A6 s25.length c7, .int .i64 (s25.length : Int), .bool false, .slice A2 s11.length c3, .int .i64 (s11.length : Int), (j80 2), (j80 3), (j80 4), (j80 5), (j80 6), (j80 7), (j80 8), (j80 9), (j80 10), (j80 11), (j80 12), (j80 13), (j80 14)], []⟩ → K19 a_ W78 := by
      intro f76 j80 W78 a_ L77 hj84 HS79  hfr_; subst hfr_
      injection hj84 with hj84; subst hj84; try dsimp only at h
      simp only [Sum.elim_inr] at h
      refine hK20 _ _ ?_
      refine wp_seq_k (fun K85 hK86 => ?_)
      refine wp_region_lit ?_
      refine seqS1 (a' := ⟨#[.slice A2 s11.length c3, .slice A6 s25.length c7, undef, undef, .bool true, (j80 1), .slice A2 s11.length c3, .int .i64 (s11.length : Int), .slice A6 s25.length c7, .int .i64 (s25.length : Int), .bool false, .slice A2 s11.length c3, .int .i64 (s11.length : Int), (j80 2), (j80 3), (j80 4), (j80 5), (j80 6), (j80 7), (j80 8), (j80 9), (j80 10), (j80 11), (j80 12), (j80 13), (j80 14)], []⟩) (by kernel_rfl) ?_
      refine wpList_nil ?_
      refine hK86 _ _ ?_
      refine wp_ret ?_
      refine hret _ _ ?_
      refine ends_still (v := Value.bool true) (by kernel_rfl) (by kernel_rfl) ?_
      injection h with h
      subst h
      exact ⟨f76, rfl, L77, HS79⟩
    clear h; have h := hv81; clear hv81
    refine loopK (fun n_ a_ w_ => ∃ (f33 : FM) (x38 : Int) (j37 : Nat → Value), FM.le f f33 ∧ St t w_ f33 (H) ∧ slices_Equal_Quanta.l0 k s11 s25 n_ x38 = some o29 ∧ a_ = ⟨#[.slice A2 s11.length c3, .slice A6 s25.length c7, undef, undef, (j37 0), (j37 1), .slice A2 s11.length c3, .int .i64 (s11.length : Int), .slice A6 s25.length c7, .int .i64 (s25.length : Int), .bool false, .slice A2 s11.length c3, .int .i64 (s11.length : Int), .int .i64 x38, (j37 2), (j37 3), (j37 4), (j37 5), (j37 6), (j37 7), (j37 8), (j37 9), (j37 10), (j37 11), (j37 12), (j37 13)], []⟩) k ⟨f, 0, (fun i_ => [Value.bool false, undef, undef, undef, undef, undef, undef, undef, undef, undef, undef, undef, undef, undef].getD i_ undef), (FM.le.refl _), HS, h, (by kernel_rfl)⟩ ?_
    clear h
    rintro n32 _ W35 ⟨f33, x38, j37, L34, HS36, h, rfl⟩ K30 hK31
    obtain _ | n32 := n32
    · exact nomatch h
    simp only [slices_Equal_Quanta.l0] at h
    refine wp_seq_k (fun K39 hK40 => ?_)
    refine wp_region_lit ?_
    refine seqS1 (a' := ⟨#[.slice A2 s11.length c3, .slice A6 s25.length c7, undef, undef, (j37 0), (j37 1), .slice A2 s11.length c3, .int .i64 (s11.length : Int), .slice A6 s25.length c7, .int .i64 (s25.length : Int), .bool false, .slice A2 s11.length c3, .int .i64 (s11.length : Int), .int .i64 x38, .bool (decide (x38 < (s11.length : Int))), (j37 3), (j37 4), (j37 5), (j37 6), (j37 7), (j37 8), (j37 9), (j37 10), (j37 11), (j37 12), (j37 13)], []⟩) (by kernel_rfl) ?_
    refine wpList_nil ?_
    refine hK40 _ _ ?_
    refine wp_seq_k (fun K41 hK42 => ?_)
    have hq_ := ite_some h; clear h; rcases hq_ with ⟨c44, h⟩ | ⟨c44, h⟩
    · have c44 : x38 < (s11.length : Int) := c44
      refine wpRwI 14 (x := (decide (x38 < (s11.length : Int)))) (v := true) (by kernel_rfl) (decide_eq_true c44) ?_
      refine condT (by kernel_rfl) ?_
      refine wp_skip ?_
      refine hK42 _ _ ?_
      refine wp_seq_k (fun K45 hK46 => ?_)
      refine blockK (fun B47 hx48 hn49 hr50 ho51 hp52 => ?_)
      refine wp_seq_k (fun K54 hK55 => ?_)
      refine wp_region_lit ?_
      refine seqS2 (a' := ⟨#[.slice A2 s11.length c3, .slice A6 s25.length c7, undef, undef, (j37 0), .int .i64 x38, .slice A2 s11.length c3, .int .i64 (s11.length : Int), .slice A6 s25.length c7, .int .i64 (s25.length : Int), .bool false, .slice A2 s11.length c3, .int .i64 (s11.length : Int), .int .i64 x38, .bool true, .int .i64 x38, (j37 4), (j37 5), (j37 6), (j37 7), (j37 8), (j37 9), (j37 10), (j37 11), (j37 12), (j37 13)], []⟩) (by kernel_rfl) ?_
      refine wpList_nil ?_
      refine hK55 _ _ ?_
      refine wp_seq_k (fun K56 hK57 => ?_)
      refine heldG (S := Sg t f33 (H) []) (n := 9) (by kernel_rfl) rfl HS36 ?_
      intro W58 HS59
      have hq_ := guard_some h; clear h; obtain ⟨c60, h⟩ := hq_
      have c60 : 0 ≤ x38 := c60
      obtain ⟨b64, of65, cs61, rfl, hr62, hc63⟩ := (HR4.mono L34).at (i := x38) c60 c44
      obtain rfl := hr62
      refine takeG [0, 1] (n := 9) (fuel := 7) (l' := #[true, true, false, false, false, false, false, false, false]) (a' := ⟨#[.slice (some ⟨b64, of65, none⟩) s11.length c3, .slice A6 s25.length c7, undef, undef, (j37 0), .int .i64 x38, .slice (some ⟨b64, of65, none⟩) s11.length c3, .int .i64 (s11.length : Int), .slice A6 s25.length c7, .int .i64 (s25.length : Int), .bool false, .slice (some ⟨b64, of65, none⟩) s11.length c3, .int .i64 (s11.length : Int), .int .i64 x38, .bool true, .int .i64 x38, .slice (some ⟨b64, of65, none⟩) s11.length c3, .int .i64 x38, (j37 6), (j37 7), (j37 8), (j37 9), (j37 10), (j37 11), (j37 12), (j37 13)], []⟩) rfl (by kernel_rfl) (by kernel_rfl) (by kernel_rfl) (fun ch_ a_ w_ q_ => (fun ch_ a_ w_ q_ => hnp ch_ a_ w_ (hp28 ch_ a_ w_ q_)) ch_ a_ w_ (hp52 ch_ a_ w_ q_)) (Sg.g0 (Sx.of [] (FM.le.refl _) HS59)) ?_
      refine takeGQ 2 [] rfl (by kernel_rfl) (by kernel_rfl) (by kernel_rfl) (by kernel_rfl) (by kernel_rfl) (by kernel_rfl) (fun ch_ a_ w_ q_ => (fun ch_ a_ w_ q_ => hnp ch_ a_ w_ (hp28 ch_ a_ w_ q_)) ch_ a_ w_ (hp52 ch_ a_ w_ q_)) (Sg.g0 (Sx.of [] (FM.le.refl _) HS59)) (fun w_ hw_ => by obtain ⟨g_, hl_, hS_⟩ := hw_.st; exact run_index (sz := 1) rfl Try.underlying48 (by kernel_rfl) (by kernel_rfl : _ = Value.slice (some ⟨b64, of65, none⟩) s11.length c3) (by kernel_rfl : _ = Value.int .i64 x38) c60 c44 w_) ?_
      refine takeGQ 3 [] rfl (by kernel_rfl) (by kernel_rfl) (by kernel_rfl) (by kernel_rfl) (by kernel_rfl) (by kernel_rfl) (fun ch_ a_ w_ q_ => (fun ch_ a_ w_ q_ => hnp ch_ a_ w_ (hp28 ch_ a_ w_ q_)) ch_ a_ w_ (hp52 ch_ a_ w_ q_)) (Sg.g0 (Sx.of [] (FM.le.refl _) HS59)) (fun w_ hw_ => by obtain ⟨g_, hl_, hS_⟩ := hw_.st; exact run_load rfl Try.underlying22 rfl (by kernel_rfl : _ = Value.pointer (some ⟨b64, of65 + (x38 : Int).toNat * 1, none⟩)) ((hc63 hl_ hS_) 0 (by decide))) ?_
      have hq_ := guard_some h; clear h; obtain ⟨c66, h⟩ := hq_
      have c66 : x38 < (s25.length : Int) := c66
      obtain ⟨b70, of71, cs67, rfl, hr68, hc69⟩ := (HR8.mono L34).at (i := x38) c60 c66
      obtain rfl := hr68
      refine takeG [4, 5] (n := 5) (fuel := 3) (l' := #[true, true, true, true, true, true, false, false, false]) (a' := ⟨#[.slice (some ⟨b64, of65, none⟩) s11.length c3, .slice (some ⟨b70, of71, none⟩) s25.length c7, undef, undef, (j37 0), .int .i64 x38, .slice (some ⟨b64, of65, none⟩) s11.length c3, .int .i64 (s11.length : Int), .slice (some ⟨b70, of71, none⟩) s25.length c7, .int .i64 (s25.length : Int), .bool false, .slice (some ⟨b64, of65, none⟩) s11.length c3, .int .i64 (s11.length : Int), .int .i64 x38, .bool true, .int .i64 x38, .slice (some ⟨b64, of65, none⟩) s11.length c3, .int .i64 x38, .pointer (some ⟨b64, of65 + (x38 : Int).toNat * 1, none⟩), .int .i64 (rd s11 x38), .slice (some ⟨b70, of71, none⟩) s25.length c7, .int .i64 x38, (j37 10), (j37 11), (j37 12), (j37 13)], []⟩) rfl (by kernel_rfl) (by kernel_rfl) (by kernel_rfl) (fun ch_ a_ w_ q_ => (fun ch_ a_ w_ q_ => hnp ch_ a_ w_ (hp28 ch_ a_ w_ q_)) ch_ a_ w_ (hp52 ch_ a_ w_ q_)) (Sg.g0 (Sx.of [] (FM.le.refl _) HS59)) ?_
      refine takeGQ 6 [] rfl (by kernel_rfl) (by kernel_rfl) (by kernel_rfl) (by kernel_rfl) (by kernel_rfl) (by kernel_rfl) (fun ch_ a_ w_ q_ => (fun ch_ a_ w_ q_ => hnp ch_ a_ w_ (hp28 ch_ a_ w_ q_)) ch_ a_ w_ (hp52 ch_ a_ w_ q_)) (Sg.g0 (Sx.of [] (FM.le.refl _) HS59)) (fun w_ hw_ => by obtain ⟨g_, hl_, hS_⟩ := hw_.st; exact run_index (sz := 1) rfl Try.underlying48 (by kernel_rfl) (by kernel_rfl : _ = Value.slice (some ⟨b70, of71, none⟩) s25.length c7) (by kernel_rfl : _ = Value.int .i64 x38) c60 c66 w_) ?_
      refine takeGQ 7 [] rfl (by kernel_rfl) (by kernel_rfl) (by kernel_rfl) (by kernel_rfl) (by kernel_rfl) (by kernel_rfl) (fun ch_ a_ w_ q_ => (fun ch_ a_ w_ q_ => hnp ch_ a_ w_ (hp28 ch_ a_ w_ q_)) ch_ a_ w_ (hp52 ch_ a_ w_ q_)) (Sg.g0 (Sx.of [] (FM.le.refl _) HS59)) (fun w_ hw_ => by obtain ⟨g_, hl_, hS_⟩ := hw_.st; exact run_load rfl Try.underlying22 rfl (by kernel_rfl : _ = Value.pointer (some ⟨b70, of71 + (x38 : Int).toNat * 1, none⟩)) ((hc69 hl_ hS_) 0 (by decide))) ?_
      refine takeG [8] (n := 1) (fuel := 0) (l' := #[true, true, true, true, true, true, true, true, true]) (a' := ⟨#[.slice (some ⟨b64, of65, none⟩) s11.length c3, .slice (some ⟨b70, of71, none⟩) s25.length c7, undef, undef, (j37 0), .int .i64 x38, .slice (some ⟨b64, of65, none⟩) s11.length c3, .int .i64 (s11.length : Int), .slice (some ⟨b70, of71, none⟩) s25.length c7, .int .i64 (s25.length : Int), .bool false, .slice (some ⟨b64, of65, none⟩) s11.length c3, .int .i64 (s11.length : Int), .int .i64 x38, .bool true, .int .i64 x38, .slice (some ⟨b64, of65, none⟩) s11.length c3, .int .i64 x38, .pointer (some ⟨b64, of65 + (x38 : Int).toNat * 1, none⟩), .int .i64 (rd s11 x38), .slice (some ⟨b70, of71, none⟩) s25.length c7, .int .i64 x38, .pointer (some ⟨b70, of71 + (x38 : Int).toNat * 1, none⟩), .int .i64 (rd s25 x38), .bool ((rd s11 x38) != (rd s25 x38)), (j37 13)], []⟩) rfl (by kernel_rfl) (by kernel_rfl) (by kernel_rfl) (fun ch_ a_ w_ q_ => (fun ch_ a_ w_ q_ => hnp ch_ a_ w_ (hp28 ch_ a_ w_ q_)) ch_ a_ w_ (hp52 ch_ a_ w_ q_)) (Sg.g0 (Sx.of [] (FM.le.refl _) HS59)) ?_
      refine doneG (by kernel_rfl) ?_ _
      refine hK57 _ _ ?_
      have hq_ := ite_some h; clear h; rcases hq_ with ⟨c73, h⟩ | ⟨c73, h⟩
      · have c73 : (rd s11 x38) ≠ (rd s25 x38) := c73
        refine wpRwI 24 (x := ((rd s11 x38) != (rd s25 x38))) (v := true) (by kernel_rfl) (bne_iff_ne.mpr c73) ?_
        refine condT (by kernel_rfl) ?_
        refine wp_seq_k (fun K74 hK75 => ?_)
        refine wp_region_lit ?_
        refine seqS1 (a' := ⟨#[.slice (some ⟨b64, of65, none⟩) s11.length c3, .slice (some ⟨b70, of71, none⟩) s25.length c7, undef, undef, .bool false, .int .i64 x38, .slice (some ⟨b64, of65, none⟩) s11.length c3, .int .i64 (s11.length : Int), .slice (some ⟨b70, of71, none⟩) s25.length c7, .int .i64 (s25.length : Int), .bool false, .slice (some ⟨b64, of65, none⟩) s11.length c3, .int .i64 (s11.length : Int), .int .i64 x38, .bool true, .int .i64 x38, .slice (some ⟨b64, of65, none⟩) s11.length c3, .int .i64 x38, .pointer (some ⟨b64, of65 + (x38 : Int).toNat * 1, none⟩), .int .i64 (rd s11 x38), .slice (some ⟨b70, of71, none⟩) s25.length c7, .int .i64 x38, .pointer (some ⟨b70, of71 + (x38 : Int).toNat * 1, none⟩), .int .i64 (rd s25 x38), .bool true, (j37 13)], []⟩) (by kernel_rfl) ?_
        refine wpList_nil ?_
        refine hK75 _ _ ?_
        refine wp_ret ?_
        refine hr50 _ _ ?_
        refine hr26 _ _ ?_
        refine hret _ _ ?_
        refine ends_still (v := Value.bool false) (by kernel_rfl) (by kernel_rfl) ?_
        replace h := JR83 _ h
        injection h with h
        subst h
        exact ⟨f33, rfl, L34, HS59⟩
      · have c73 : ¬ ((rd s11 x38) ≠ (rd s25 x38)) := c73
        refine wpRwI 24 (x := ((rd s11 x38) != (rd s25 x38))) (v := false) (by kernel_rfl) (bne_eq_false_iff_eq.mpr (Decidable.of_not_not c73)) ?_
        refine condF (by kernel_rfl) ?_
        refine wp_skip ?_
        refine hn49 _ _ ?_
        refine hK46 _ _ ?_
        refine wp_region_lit ?_
        refine seqS2 (a' := ⟨#[.slice (some ⟨b64, of65, none⟩) s11.length c3, .slice (some ⟨b70, of71, none⟩) s25.length c7, undef, undef, (j37 0), .int .i64 x38, .slice (some ⟨b64, of65, none⟩) s11.length c3, .int .i64 (s11.length : Int), .slice (some ⟨b70, of71, none⟩) s25.length c7, .int .i64 (s25.length : Int), .bool false, .slice (some ⟨b64, of65, none⟩) s11.length c3, .int .i64 (s11.length : Int), .int .i64 (w64 (x38 + 1)), .bool true, .int .i64 x38, .slice (some ⟨b64, of65, none⟩) s11.length c3, .int .i64 x38, .pointer (some ⟨b64, of65 + (x38 : Int).toNat * 1, none⟩), .int .i64 (rd s11 x38), .slice (some ⟨b70, of71, none⟩) s25.length c7, .int .i64 x38, .pointer (some ⟨b70, of71 + (x38 : Int).toNat * 1, none⟩), .int .i64 (rd s25 x38), .bool false, .int .i64 (w64 (x38 + 1))], []⟩) (by kernel_rfl) ?_
        refine wpList_nil ?_
        refine hK31 n32 _ _ (Nat.lt_succ_self _) ?_
        exact ⟨f33, (w64 (x38 + 1)), (fun i_ => [(j37 0), Value.int .i64 x38, Value.bool true, Value.int .i64 x38, Value.slice (some ⟨b64, of65, none⟩) s11.length c3, Value.int .i64 x38, Value.pointer (some ⟨b64, of65 + (x38 : Int).toNat * 1, none⟩), Value.int .i64 (rd s11 x38), Value.slice (some ⟨b70, of71, none⟩) s25.length c7, Value.int .i64 x38, Value.pointer (some ⟨b70, of71 + (x38 : Int).toNat * 1, none⟩), Value.int .i64 (rd s25 x38), Value.bool false, Value.int .i64 (w64 (x38 + 1))].getD i_ undef), L34, HS59, h, (by kernel_rfl)⟩
    · have c44 : ¬ (x38 < (s11.length : Int)) := c44
      refine wpRwI 14 (x := (decide (x38 < (s11.length : Int)))) (v := false) (by kernel_rfl) (decide_eq_false c44) ?_
      refine condF (by kernel_rfl) ?_
      refine wp_exit ?_
      refine hx24 _ _ ?_
      exact J82 f33 (fun i_ => [(j37 0), (j37 1), Value.int .i64 x38, Value.bool false, (j37 3), (j37 4), (j37 5), (j37 6), (j37 7), (j37 8), (j37 9), (j37 10), (j37 11), (j37 12), (j37 13)].getD i_ undef) W35 _ L34 h HS36 (by kernel_rfl)

set_option maxRecDepth 100000 in
set_option maxHeartbeats 4000000 in
theorem slices_Equal_Light.calls (k : Nat) (A2 : Option Addr) (c3 : Nat) (A6 : Option Addr) (c7 : Nat) (s11 : List Int) (s25 : List Int) {t w : World} {f : FM} {H : List Seg} (HS : St t w f (H)) (HR4 : SlR (tInt .i64) f A2 c3 s11) (HR8 : SlR (tInt .i64) f A6 c7 s25) (r1 : Bool) (h : slices_Equal_Light k s11 s25 = some r1) :
    Calls Try.prog 52 #[.slice A2 s11.length c3, .slice A6 s25.length c7] w (fun e w' => ∃ (g : FM), e = .returned (Value.bool r1) ∧ FM.le f g ∧ St t w' g (H)) := by
  unfold slices_Equal_Light at h
  refine enter Try.func52 rfl (tm := #[.slice A2 s11.length c3, .slice A6 s25.length c7, undef, undef, undef, undef, undef, undef, undef, undef, undef, undef, undef, undef, undef, undef, undef, undef, undef, undef, undef, undef, undef, undef, undef, undef]) (by kernel_rfl) ?_
  intro B hret hnor hnp
  refine wp_seq_k (fun K9 hK10 => ?_)
  refine wp_region_lit ?_
  refine seqS1 (a' := ⟨#[.slice A2 s11.length c3, .slice A6 s25.length c7, undef, undef, .bool false, undef, undef, undef, undef, undef, undef, undef, undef, undef, undef, undef, undef, undef, undef, undef, undef, undef, undef, undef, undef, undef], []⟩) (by kernel_rfl) ?_
  refine wpList_nil ?_
  refine hK10 _ _ ?_
  refine wp_seq_k (fun K11 hK12 => ?_)
  refine wp_seq_k (fun K13 hK14 => ?_)
  refine wp_region_lit ?_
  refine seqS5 (a' := ⟨#[.slice A2 s11.length c3, .slice A6 s25.length c7, undef, undef, .bool false, undef, .slice A2 s11.length c3, .int .i64 (s11.length : Int), .slice A6 s25.length c7, .int .i64 (s25.length : Int), .bool ((s11.length : Int) != (s25.length : Int)), undef, undef, undef, undef, undef, undef, undef, undef, undef, undef, undef, undef, undef, undef, undef], []⟩) (by kernel_rfl) ?_
  refine wpList_nil ?_
  refine hK14 _ _ ?_
  have hq_ := ite_some h; clear h; rcases hq_ with ⟨c16, h⟩ | ⟨c16, h⟩
  · have c16 : (s11.length : Int) ≠ (s25.length : Int) := c16
    refine wpRwI 10 (x := ((s11.length : Int) != (s25.length : Int))) (v := true) (by kernel_rfl) (bne_iff_ne.mpr c16) ?_
    refine condT (by kernel_rfl) ?_
    refine wp_seq_k (fun K17 hK18 => ?_)
    refine wp_region_lit ?_
    refine seqS1 (a' := ⟨#[.slice A2 s11.length c3, .slice A6 s25.length c7, undef, undef, .bool false, undef, .slice A2 s11.length c3, .int .i64 (s11.length : Int), .slice A6 s25.length c7, .int .i64 (s25.length : Int), .bool true, undef, undef, undef, undef, undef, undef, undef, undef, undef, undef, undef, undef, undef, undef, undef], []⟩) (by kernel_rfl) ?_
    refine wpList_nil ?_
    refine hK18 _ _ ?_
    refine wp_ret ?_
    refine hret _ _ ?_
    refine ends_still (v := Value.bool false) (by kernel_rfl) (by kernel_rfl) ?_
    injection h with h
    subst h
    exact ⟨f, rfl, FM.le.refl _, HS⟩
  · have c16 : ¬ ((s11.length : Int) ≠ (s25.length : Int)) := c16
    refine wpRwI 10 (x := ((s11.length : Int) != (s25.length : Int))) (v := false) (by kernel_rfl) (bne_eq_false_iff_eq.mpr (Decidable.of_not_not c16)) ?_
    refine condF (by kernel_rfl) ?_
    refine wp_skip ?_
    refine hK12 _ _ ?_
    refine wp_seq_k (fun K19 hK20 => ?_)
    refine wp_seq_k (fun K21 hK22 => ?_)
    refine wp_region_lit ?_
    refine seqS3 (a' := ⟨#[.slice A2 s11.length c3, .slice A6 s25.length c7, undef, undef, .bool false, undef, .slice A2 s11.length c3, .int .i64 (s11.length : Int), .slice A6 s25.length c7, .int .i64 (s25.length : Int), .bool false, .slice A2 s11.length c3, .int .i64 (s11.length : Int), .int .i64 0, undef, undef, undef, undef, undef, undef, undef, undef, undef, undef, undef, undef], []⟩) (by kernel_rfl) ?_
    refine wpList_nil ?_
    refine hK22 _ _ ?_
    refine blockK (fun B23 hx24 hn25 hr26 ho27 hp28 => ?_)
    have hq_ := bind_some h; clear h; obtain ⟨o29, hv81, h⟩ := hq_
    have JR83 : ∀ z_, some (Sum.inl z_) = some o29 → some z_ = some r1 := by
      intro z_ e_; injection e_ with e_; subst e_; exact h
    have J82 : ∀ (f76 : FM) (j80 : Nat → Value) (W78 : World) (a_ : Act), FM.le f f76 → some (Sum.inr ()) = some o29 → St t W78 f76 (H) → a_ = ⟨#[.slice A2 s11.length c3, .slice A6 s25.length c7, undef, undef, (j80 0), (j80 1), .slice A2 s11.length c3, .int .i64 (s11.length : Int), .slice A6 s25.length c7, .int .i64 (s25.length : Int), .bool false, .slice A2 s11.length c3, .int .i64 (s11.length : Int), (j80 2), (j80 3), (j80 4), (j80 5), (j80 6), (j80 7), (j80 8), (j80 9), (j80 10), (j80 11), (j80 12), (j80 13), (j80 14)], []⟩ → K19 a_ W78 := by
      intro f76 j80 W78 a_ L77 hj84 HS79  hfr_; subst hfr_
      injection hj84 with hj84; subst hj84; try dsimp only at h
      simp only [Sum.elim_inr] at h
      refine hK20 _ _ ?_
      refine wp_seq_k (fun K85 hK86 => ?_)
      refine wp_region_lit ?_
      refine seqS1 (a' := ⟨#[.slice A2 s11.length c3, .slice A6 s25.length c7, undef, undef, .bool true, (j80 1), .slice A2 s11.length c3, .int .i64 (s11.length : Int), .slice A6 s25.length c7, .int .i64 (s25.length : Int), .bool false, .slice A2 s11.length c3, .int .i64 (s11.length : Int), (j80 2), (j80 3), (j80 4), (j80 5), (j80 6), (j80 7), (j80 8), (j80 9), (j80 10), (j80 11), (j80 12), (j80 13), (j80 14)], []⟩) (by kernel_rfl) ?_
      refine wpList_nil ?_
      refine hK86 _ _ ?_
      refine wp_ret ?_
      refine hret _ _ ?_
      refine ends_still (v := Value.bool true) (by kernel_rfl) (by kernel_rfl) ?_
      injection h with h
      subst h
      exact ⟨f76, rfl, L77, HS79⟩
    clear h; have h := hv81; clear hv81
    refine loopK (fun n_ a_ w_ => ∃ (f33 : FM) (x38 : Int) (j37 : Nat → Value), FM.le f f33 ∧ St t w_ f33 (H) ∧ slices_Equal_Light.l0 k s11 s25 n_ x38 = some o29 ∧ a_ = ⟨#[.slice A2 s11.length c3, .slice A6 s25.length c7, undef, undef, (j37 0), (j37 1), .slice A2 s11.length c3, .int .i64 (s11.length : Int), .slice A6 s25.length c7, .int .i64 (s25.length : Int), .bool false, .slice A2 s11.length c3, .int .i64 (s11.length : Int), .int .i64 x38, (j37 2), (j37 3), (j37 4), (j37 5), (j37 6), (j37 7), (j37 8), (j37 9), (j37 10), (j37 11), (j37 12), (j37 13)], []⟩) k ⟨f, 0, (fun i_ => [Value.bool false, undef, undef, undef, undef, undef, undef, undef, undef, undef, undef, undef, undef, undef].getD i_ undef), (FM.le.refl _), HS, h, (by kernel_rfl)⟩ ?_
    clear h
    rintro n32 _ W35 ⟨f33, x38, j37, L34, HS36, h, rfl⟩ K30 hK31
    obtain _ | n32 := n32
    · exact nomatch h
    simp only [slices_Equal_Light.l0] at h
    refine wp_seq_k (fun K39 hK40 => ?_)
    refine wp_region_lit ?_
    refine seqS1 (a' := ⟨#[.slice A2 s11.length c3, .slice A6 s25.length c7, undef, undef, (j37 0), (j37 1), .slice A2 s11.length c3, .int .i64 (s11.length : Int), .slice A6 s25.length c7, .int .i64 (s25.length : Int), .bool false, .slice A2 s11.length c3, .int .i64 (s11.length : Int), .int .i64 x38, .bool (decide (x38 < (s11.length : Int))), (j37 3), (j37 4), (j37 5), (j37 6), (j37 7), (j37 8), (j37 9), (j37 10), (j37 11), (j37 12), (j37 13)], []⟩) (by kernel_rfl) ?_
    refine wpList_nil ?_
    refine hK40 _ _ ?_
    refine wp_seq_k (fun K41 hK42 => ?_)
    have hq_ := ite_some h; clear h; rcases hq_ with ⟨c44, h⟩ | ⟨c44, h⟩
    · have c44 : x38 < (s11.length : Int) := c44
      refine wpRwI 14 (x := (decide (x38 < (s11.length : Int)))) (v := true) (by kernel_rfl) (decide_eq_true c44) ?_
      refine condT (by kernel_rfl) ?_
      refine wp_skip ?_
      refine hK42 _ _ ?_
      refine wp_seq_k (fun K45 hK46 => ?_)
      refine blockK (fun B47 hx48 hn49 hr50 ho51 hp52 => ?_)
      refine wp_seq_k (fun K54 hK55 => ?_)
      refine wp_region_lit ?_
      refine seqS2 (a' := ⟨#[.slice A2 s11.length c3, .slice A6 s25.length c7, undef, undef, (j37 0), .int .i64 x38, .slice A2 s11.length c3, .int .i64 (s11.length : Int), .slice A6 s25.length c7, .int .i64 (s25.length : Int), .bool false, .slice A2 s11.length c3, .int .i64 (s11.length : Int), .int .i64 x38, .bool true, .int .i64 x38, (j37 4), (j37 5), (j37 6), (j37 7), (j37 8), (j37 9), (j37 10), (j37 11), (j37 12), (j37 13)], []⟩) (by kernel_rfl) ?_
      refine wpList_nil ?_
      refine hK55 _ _ ?_
      refine wp_seq_k (fun K56 hK57 => ?_)
      refine heldG (S := Sg t f33 (H) []) (n := 9) (by kernel_rfl) rfl HS36 ?_
      intro W58 HS59
      have hq_ := guard_some h; clear h; obtain ⟨c60, h⟩ := hq_
      have c60 : 0 ≤ x38 := c60
      obtain ⟨b64, of65, cs61, rfl, hr62, hc63⟩ := (HR4.mono L34).at (i := x38) c60 c44
      obtain rfl := hr62
      refine takeG [0, 1] (n := 9) (fuel := 7) (l' := #[true, true, false, false, false, false, false, false, false]) (a' := ⟨#[.slice (some ⟨b64, of65, none⟩) s11.length c3, .slice A6 s25.length c7, undef, undef, (j37 0), .int .i64 x38, .slice (some ⟨b64, of65, none⟩) s11.length c3, .int .i64 (s11.length : Int), .slice A6 s25.length c7, .int .i64 (s25.length : Int), .bool false, .slice (some ⟨b64, of65, none⟩) s11.length c3, .int .i64 (s11.length : Int), .int .i64 x38, .bool true, .int .i64 x38, .slice (some ⟨b64, of65, none⟩) s11.length c3, .int .i64 x38, (j37 6), (j37 7), (j37 8), (j37 9), (j37 10), (j37 11), (j37 12), (j37 13)], []⟩) rfl (by kernel_rfl) (by kernel_rfl) (by kernel_rfl) (fun ch_ a_ w_ q_ => (fun ch_ a_ w_ q_ => hnp ch_ a_ w_ (hp28 ch_ a_ w_ q_)) ch_ a_ w_ (hp52 ch_ a_ w_ q_)) (Sg.g0 (Sx.of [] (FM.le.refl _) HS59)) ?_
      refine takeGQ 2 [] rfl (by kernel_rfl) (by kernel_rfl) (by kernel_rfl) (by kernel_rfl) (by kernel_rfl) (by kernel_rfl) (fun ch_ a_ w_ q_ => (fun ch_ a_ w_ q_ => hnp ch_ a_ w_ (hp28 ch_ a_ w_ q_)) ch_ a_ w_ (hp52 ch_ a_ w_ q_)) (Sg.g0 (Sx.of [] (FM.le.refl _) HS59)) (fun w_ hw_ => by obtain ⟨g_, hl_, hS_⟩ := hw_.st; exact run_index (sz := 1) rfl Try.underlying44 (by kernel_rfl) (by kernel_rfl : _ = Value.slice (some ⟨b64, of65, none⟩) s11.length c3) (by kernel_rfl : _ = Value.int .i64 x38) c60 c44 w_) ?_
      refine takeGQ 3 [] rfl (by kernel_rfl) (by kernel_rfl) (by kernel_rfl) (by kernel_rfl) (by kernel_rfl) (by kernel_rfl) (fun ch_ a_ w_ q_ => (fun ch_ a_ w_ q_ => hnp ch_ a_ w_ (hp28 ch_ a_ w_ q_)) ch_ a_ w_ (hp52 ch_ a_ w_ q_)) (Sg.g0 (Sx.of [] (FM.le.refl _) HS59)) (fun w_ hw_ => by obtain ⟨g_, hl_, hS_⟩ := hw_.st; exact run_load rfl Try.underlying25 rfl (by kernel_rfl : _ = Value.pointer (some ⟨b64, of65 + (x38 : Int).toNat * 1, none⟩)) ((hc63 hl_ hS_) 0 (by decide))) ?_
      have hq_ := guard_some h; clear h; obtain ⟨c66, h⟩ := hq_
      have c66 : x38 < (s25.length : Int) := c66
      obtain ⟨b70, of71, cs67, rfl, hr68, hc69⟩ := (HR8.mono L34).at (i := x38) c60 c66
      obtain rfl := hr68
      refine takeG [4, 5] (n := 5) (fuel := 3) (l' := #[true, true, true, true, true, true, false, false, false]) (a' := ⟨#[.slice (some ⟨b64, of65, none⟩) s11.length c3, .slice (some ⟨b70, of71, none⟩) s25.length c7, undef, undef, (j37 0), .int .i64 x38, .slice (some ⟨b64, of65, none⟩) s11.length c3, .int .i64 (s11.length : Int), .slice (some ⟨b70, of71, none⟩) s25.length c7, .int .i64 (s25.length : Int), .bool false, .slice (some ⟨b64, of65, none⟩) s11.length c3, .int .i64 (s11.length : Int), .int .i64 x38, .bool true, .int .i64 x38, .slice (some ⟨b64, of65, none⟩) s11.length c3, .int .i64 x38, .pointer (some ⟨b64, of65 + (x38 : Int).toNat * 1, none⟩), .int .i64 (rd s11 x38), .slice (some ⟨b70, of71, none⟩) s25.length c7, .int .i64 x38, (j37 10), (j37 11), (j37 12), (j37 13)], []⟩) rfl (by kernel_rfl) (by kernel_rfl) (by kernel_rfl) (fun ch_ a_ w_ q_ => (fun ch_ a_ w_ q_ => hnp ch_ a_ w_ (hp28 ch_ a_ w_ q_)) ch_ a_ w_ (hp52 ch_ a_ w_ q_)) (Sg.g0 (Sx.of [] (FM.le.refl _) HS59)) ?_
      refine takeGQ 6 [] rfl (by kernel_rfl) (by kernel_rfl) (by kernel_rfl) (by kernel_rfl) (by kernel_rfl) (by kernel_rfl) (fun ch_ a_ w_ q_ => (fun ch_ a_ w_ q_ => hnp ch_ a_ w_ (hp28 ch_ a_ w_ q_)) ch_ a_ w_ (hp52 ch_ a_ w_ q_)) (Sg.g0 (Sx.of [] (FM.le.refl _) HS59)) (fun w_ hw_ => by obtain ⟨g_, hl_, hS_⟩ := hw_.st; exact run_index (sz := 1) rfl Try.underlying44 (by kernel_rfl) (by kernel_rfl : _ = Value.slice (some ⟨b70, of71, none⟩) s25.length c7) (by kernel_rfl : _ = Value.int .i64 x38) c60 c66 w_) ?_
      refine takeGQ 7 [] rfl (by kernel_rfl) (by kernel_rfl) (by kernel_rfl) (by kernel_rfl) (by kernel_rfl) (by kernel_rfl) (fun ch_ a_ w_ q_ => (fun ch_ a_ w_ q_ => hnp ch_ a_ w_ (hp28 ch_ a_ w_ q_)) ch_ a_ w_ (hp52 ch_ a_ w_ q_)) (Sg.g0 (Sx.of [] (FM.le.refl _) HS59)) (fun w_ hw_ => by obtain ⟨g_, hl_, hS_⟩ := hw_.st; exact run_load rfl Try.underlying25 rfl (by kernel_rfl : _ = Value.pointer (some ⟨b70, of71 + (x38 : Int).toNat * 1, none⟩)) ((hc69 hl_ hS_) 0 (by decide))) ?_
      refine takeG [8] (n := 1) (fuel := 0) (l' := #[true, true, true, true, true, true, true, true, true]) (a' := ⟨#[.slice (some ⟨b64, of65, none⟩) s11.length c3, .slice (some ⟨b70, of71, none⟩) s25.length c7, undef, undef, (j37 0), .int .i64 x38, .slice (some ⟨b64, of65, none⟩) s11.length c3, .int .i64 (s11.length : Int), .slice (some ⟨b70, of71, none⟩) s25.length c7, .int .i64 (s25.length : Int), .bool false, .slice (some ⟨b64, of65, none⟩) s11.length c3, .int .i64 (s11.length : Int), .int .i64 x38, .bool true, .int .i64 x38, .slice (some ⟨b64, of65, none⟩) s11.length c3, .int .i64 x38, .pointer (some ⟨b64, of65 + (x38 : Int).toNat * 1, none⟩), .int .i64 (rd s11 x38), .slice (some ⟨b70, of71, none⟩) s25.length c7, .int .i64 x38, .pointer (some ⟨b70, of71 + (x38 : Int).toNat * 1, none⟩), .int .i64 (rd s25 x38), .bool ((rd s11 x38) != (rd s25 x38)), (j37 13)], []⟩) rfl (by kernel_rfl) (by kernel_rfl) (by kernel_rfl) (fun ch_ a_ w_ q_ => (fun ch_ a_ w_ q_ => hnp ch_ a_ w_ (hp28 ch_ a_ w_ q_)) ch_ a_ w_ (hp52 ch_ a_ w_ q_)) (Sg.g0 (Sx.of [] (FM.le.refl _) HS59)) ?_
      refine doneG (by kernel_rfl) ?_ _
      refine hK57 _ _ ?_
      have hq_ := ite_some h; clear h; rcases hq_ with ⟨c73, h⟩ | ⟨c73, h⟩
      · have c73 : (rd s11 x38) ≠ (rd s25 x38) := c73
        refine wpRwI 24 (x := ((rd s11 x38) != (rd s25 x38))) (v := true) (by kernel_rfl) (bne_iff_ne.mpr c73) ?_
        refine condT (by kernel_rfl) ?_
        refine wp_seq_k (fun K74 hK75 => ?_)
        refine wp_region_lit ?_
        refine seqS1 (a' := ⟨#[.slice (some ⟨b64, of65, none⟩) s11.length c3, .slice (some ⟨b70, of71, none⟩) s25.length c7, undef, undef, .bool false, .int .i64 x38, .slice (some ⟨b64, of65, none⟩) s11.length c3, .int .i64 (s11.length : Int), .slice (some ⟨b70, of71, none⟩) s25.length c7, .int .i64 (s25.length : Int), .bool false, .slice (some ⟨b64, of65, none⟩) s11.length c3, .int .i64 (s11.length : Int), .int .i64 x38, .bool true, .int .i64 x38, .slice (some ⟨b64, of65, none⟩) s11.length c3, .int .i64 x38, .pointer (some ⟨b64, of65 + (x38 : Int).toNat * 1, none⟩), .int .i64 (rd s11 x38), .slice (some ⟨b70, of71, none⟩) s25.length c7, .int .i64 x38, .pointer (some ⟨b70, of71 + (x38 : Int).toNat * 1, none⟩), .int .i64 (rd s25 x38), .bool true, (j37 13)], []⟩) (by kernel_rfl) ?_
        refine wpList_nil ?_
        refine hK75 _ _ ?_
        refine wp_ret ?_
        refine hr50 _ _ ?_
        refine hr26 _ _ ?_
        refine hret _ _ ?_
        refine ends_still (v := Value.bool false) (by kernel_rfl) (by kernel_rfl) ?_
        replace h := JR83 _ h
        injection h with h
        subst h
        exact ⟨f33, rfl, L34, HS59⟩
      · have c73 : ¬ ((rd s11 x38) ≠ (rd s25 x38)) := c73
        refine wpRwI 24 (x := ((rd s11 x38) != (rd s25 x38))) (v := false) (by kernel_rfl) (bne_eq_false_iff_eq.mpr (Decidable.of_not_not c73)) ?_
        refine condF (by kernel_rfl) ?_
        refine wp_skip ?_
        refine hn49 _ _ ?_
        refine hK46 _ _ ?_
        refine wp_region_lit ?_
        refine seqS2 (a' := ⟨#[.slice (some ⟨b64, of65, none⟩) s11.length c3, .slice (some ⟨b70, of71, none⟩) s25.length c7, undef, undef, (j37 0), .int .i64 x38, .slice (some ⟨b64, of65, none⟩) s11.length c3, .int .i64 (s11.length : Int), .slice (some ⟨b70, of71, none⟩) s25.length c7, .int .i64 (s25.length : Int), .bool false, .slice (some ⟨b64, of65, none⟩) s11.length c3, .int .i64 (s11.length : Int), .int .i64 (w64 (x38 + 1)), .bool true, .int .i64 x38, .slice (some ⟨b64, of65, none⟩) s11.length c3, .int .i64 x38, .pointer (some ⟨b64, of65 + (x38 : Int).toNat * 1, none⟩), .int .i64 (rd s11 x38), .slice (some ⟨b70, of71, none⟩) s25.length c7, .int .i64 x38, .pointer (some ⟨b70, of71 + (x38 : Int).toNat * 1, none⟩), .int .i64 (rd s25 x38), .bool false, .int .i64 (w64 (x38 + 1))], []⟩) (by kernel_rfl) ?_
        refine wpList_nil ?_
        refine hK31 n32 _ _ (Nat.lt_succ_self _) ?_
        exact ⟨f33, (w64 (x38 + 1)), (fun i_ => [(j37 0), Value.int .i64 x38, Value.bool true, Value.int .i64 x38, Value.slice (some ⟨b64, of65, none⟩) s11.length c3, Value.int .i64 x38, Value.pointer (some ⟨b64, of65 + (x38 : Int).toNat * 1, none⟩), Value.int .i64 (rd s11 x38), Value.slice (some ⟨b70, of71, none⟩) s25.length c7, Value.int .i64 x38, Value.pointer (some ⟨b70, of71 + (x38 : Int).toNat * 1, none⟩), Value.int .i64 (rd s25 x38), Value.bool false, Value.int .i64 (w64 (x38 + 1))].getD i_ undef), L34, HS59, h, (by kernel_rfl)⟩
    · have c44 : ¬ (x38 < (s11.length : Int)) := c44
      refine wpRwI 14 (x := (decide (x38 < (s11.length : Int)))) (v := false) (by kernel_rfl) (decide_eq_false c44) ?_
      refine condF (by kernel_rfl) ?_
      refine wp_exit ?_
      refine hx24 _ _ ?_
      exact J82 f33 (fun i_ => [(j37 0), (j37 1), Value.int .i64 x38, Value.bool false, (j37 3), (j37 4), (j37 5), (j37 6), (j37 7), (j37 8), (j37 9), (j37 10), (j37 11), (j37 12), (j37 13)].getD i_ undef) W35 _ L34 h HS36 (by kernel_rfl)

set_option maxRecDepth 100000 in
set_option maxHeartbeats 4000000 in
theorem spykeep3_column.calls (k : Nat)   {t w : World} {f : FM} {H : List Seg} (HS : St t w f (H)) (r1 : Bool) (h : spykeep3_column k = some r1) :
    Calls Try.prog 22 #[] w (fun e w' => ∃ (g : FM), e = .returned (Value.bool r1) ∧ FM.le f g ∧ St t w' g (H)) := by
  unfold spykeep3_column at h
  refine enter Try.func22 rfl (tm := #[undef, undef, undef, undef, undef, undef, undef, undef, undef, undef, undef, undef, undef, undef, undef, undef, undef, undef, undef, undef, undef, undef, undef, undef, undef, undef, undef, undef, undef, undef, undef, undef, undef, undef, undef, undef, undef, undef, undef, undef, undef, undef, undef, undef]) (by kernel_rfl) ?_
  intro B hret hnor hnp
  refine wp_seq_k (fun K1 hK2 => ?_)
  refine wp_region_lit ?_
  refine seqS1 (a' := ⟨#[.bool false, undef, undef, undef, undef, undef, undef, undef, undef, undef, undef, undef, undef, undef, undef, undef, undef, undef, undef, undef, undef, undef, undef, undef, undef, undef, undef, undef, undef, undef, undef, undef, undef, undef, undef, undef, undef, undef, undef, undef, undef, undef, undef, undef], []⟩) (by kernel_rfl) ?_
  refine wpList_nil ?_
  refine hK2 _ _ ?_
  refine wp_seq_k (fun K3 hK4 => ?_)
  refine wp_region_lit ?_
  refine seqK rfl (does_lit (e := (tInt .i64)) (E := 3) (vs := #[(0, Value.int .i64 1), (1, Value.int .i64 2)]) (cs := #[.int .i64 1, .int .i64 2]) (xs := ([1, 2] : List Int)) rfl Try.underlying40 (by kernel_rfl) (by kernel_rfl) ⟨[.int .i64 1], _, rfl, rfl, ⟨[.int .i64 2], _, rfl, rfl, rfl⟩⟩ rfl HS ?_ (by decide))
  intro b5 W6 s7 HS8 _ HO9
  refine seqK rfl (does_lit (e := (tInt .i64)) (E := 25) (vs := #[(0, Value.int .i64 0), (1, Value.int .i64 3)]) (cs := #[.int .i64 0, .int .i64 3]) (xs := ([0, 3] : List Int)) rfl Try.underlying44 (by kernel_rfl) (by kernel_rfl) ⟨[.int .i64 0], _, rfl, rfl, ⟨[.int .i64 3], _, rfl, rfl, rfl⟩⟩ rfl HS8 ?_ (by decide))
  intro b11 W12 s13 HS14 _ HO15
  refine seqK rfl (does_lit (e := (tInt .i64)) (E := 3) (vs := #[(0, Value.int .i64 4096), (1, Value.int .i64 0)]) (cs := #[.int .i64 4096, .int .i64 0]) (xs := ([4096, 0] : List Int)) rfl Try.underlying40 (by kernel_rfl) (by kernel_rfl) ⟨[.int .i64 4096], _, rfl, rfl, ⟨[.int .i64 0], _, rfl, rfl, rfl⟩⟩ rfl HS14 ?_ (by decide))
  intro b17 W18 s19 HS20 _ HO21
  refine seqL1 (by kernel_rfl) ?_
  refine seqK rfl (does_alloc (z := Value.agg #[.int .i64 0, .int .i64 0, .slice none 0 0, .slice none 0 0, .slice none 0 0, .int .i64 0, .int .i64 0, .int .i64 0]) (cs := #[.int .i64 0, .int .i64 0, .slice none 0 0, .slice none 0 0, .slice none 0 0, .int .i64 0, .int .i64 0, .int .i64 0]) rfl (by kernel_rfl) rfl HS20 ?_)
  intro b23 W24 HS25
  refine seqK rfl (does_store (n := 8) (vs := [.int .i64 1, .int .i64 2, .slice (some ⟨b5, 0, none⟩) ([1, 2] : List Int).length 2, .slice (some ⟨b11, 0, none⟩) ([0, 3] : List Int).length 2, .slice (some ⟨b17, 0, none⟩) ([4096, 0] : List Int).length 2, .int .i64 10, .int .i64 1, .int .i64 0]) (cs' := #[.int .i64 1, .int .i64 2, .slice (some ⟨b5, 0, none⟩) ([1, 2] : List Int).length 2, .slice (some ⟨b11, 0, none⟩) ([0, 3] : List Int).length 2, .slice (some ⟨b17, 0, none⟩) ([4096, 0] : List Int).length 2, .int .i64 10, .int .i64 1, .int .i64 0]) rfl (by kernel_rfl) (by kernel_rfl : _ = Value.pointer (some ⟨b23, 0, none⟩)) (by kernel_rfl : _ = Value.agg #[.int .i64 1, .int .i64 2, .slice (some ⟨b5, 0, none⟩) ([1, 2] : List Int).length 2, .slice (some ⟨b11, 0, none⟩) ([0, 3] : List Int).length 2, .slice (some ⟨b17, 0, none⟩) ([4096, 0] : List Int).length 2, .int .i64 10, .int .i64 1, .int .i64 0]) rfl rfl (by intro u_ hu_; simp only [List.mem_cons, List.not_mem_nil, or_false] at hu_; rcases hu_ with rfl | rfl | rfl | rfl | rfl | rfl | rfl | rfl <;> rfl) HS25 (Nat.le_of_ble_eq_true rfl) (by kernel_rfl) ?_)
  intro W27 HS28
  refine wpList_nil ?_
  refine hK4 _ _ ?_
  refine wp_seq_k (fun K29 hK30 => ?_)
  refine wp_region_lit ?_
  refine seqK rfl (does_run (run_loadN (n := 8) rfl Try.underlying46 rfl (by kernel_rfl) (by kernel_rfl : _ = Value.pointer (some ⟨b23, 0, none⟩)) (cs := [.int .i64 1, .int .i64 2, .slice (some ⟨b5, 0, none⟩) ([1, 2] : List Int).length 2, .slice (some ⟨b11, 0, none⟩) ([0, 3] : List Int).length 2, .slice (some ⟨b17, 0, none⟩) ([4096, 0] : List Int).length 2, .int .i64 10, .int .i64 1, .int .i64 0]) rfl (HS28.cells 0 8 _ rfl)) ?_)
  refine seqK rfl (does_lit (e := (tInt .i64)) (E := 22) (vs := #[(0, Value.int .i64 13), (1, Value.int .i64 0)]) (cs := #[.int .i64 13, .int .i64 0]) (xs := ([13, 0] : List Int)) rfl Try.underlying48 (by kernel_rfl) (by kernel_rfl) ⟨[.int .i64 13], _, rfl, rfl, ⟨[.int .i64 0], _, rfl, rfl, rfl⟩⟩ rfl HS28 ?_ (by decide))
  intro b31 W32 s33 HS34 _ HO35
  have HS37 := HS34.u4
  obtain ⟨f38, L39, HS40, HR41, th42⟩ := HO9.lend HS37
  have HS43 := HS40.u3
  obtain ⟨f44, L45, HS46, HR47, th48⟩ := (HO15.mono L39).lend HS43
  have HS49 := HS46.u2
  obtain ⟨f50, L51, HS52, HR53, th54⟩ := (HO21.mono (L39.trans L45)).lend HS49
  obtain ⟨f55, L56, HS57, HR58, th59⟩ := (HO35.mono (L39.trans (L45.trans L51))).lend HS52
  have hq_ := bind_some h; clear h; obtain ⟨⟨vt60, vt61, vt62⟩, hc63, h⟩ := hq_
  refine seqK rfl (does_call (f := 21) (args := #[.agg #[.int .i64 1, .int .i64 2, .slice (some ⟨b5, 0, none⟩) ([1, 2] : List Int).length 2, .slice (some ⟨b11, 0, none⟩) ([0, 3] : List Int).length 2, .slice (some ⟨b17, 0, none⟩) ([4096, 0] : List Int).length 2, .int .i64 10, .int .i64 1, .int .i64 0], .slice (some ⟨b31, 0, none⟩) ([13, 0] : List Int).length 2]) (by kernel_rfl) (sensor_Bleed.calls k (some ⟨b5, 0, none⟩) 2 (some ⟨b11, 0, none⟩) 2 (some ⟨b17, 0, none⟩) 2 (some ⟨b31, 0, none⟩) 2 (⟨1, 2, ([1, 2] : List Int), ([0, 3] : List Int), ([4096, 0] : List Int), 10, 1, 0⟩ : S_Sensor) ([13, 0] : List Int) HS57 (HR41.mono (L45.trans (L51.trans L56))) (HR47.mono (L51.trans L56)) (HR53.mono L56) HR58 vt60 vt61 vt62 hc63) ?_)
  rintro _ W66 ⟨f64, A68, c69, s70, rfl, L65, HS67, HO71⟩
  refine ⟨_, rfl, ?_⟩
  obtain ⟨f73, L74, HS75⟩ := th59 L65 HS67
  obtain ⟨f76, L77, HS78⟩ := th54 L74 HS75
  obtain ⟨f79, L80, HS81⟩ := th48 L77 HS78
  obtain ⟨f82, L83, HS84⟩ := th42 L80 HS81
  replace HO71 := HO71.flat (g := f82) (fun _ _ _ _ h_ => h_)
  refine seqS7 (a' := ⟨#[.bool false, .pointer (some ⟨b23, 0, none⟩), .slice A68 vt60.length c69, .int .i64 vt61, .int .i64 vt62, undef, undef, .slice (some ⟨b5, 0, none⟩) ([1, 2] : List Int).length 2, .slice (some ⟨b11, 0, none⟩) ([0, 3] : List Int).length 2, .slice (some ⟨b17, 0, none⟩) ([4096, 0] : List Int).length 2, .agg #[.int .i64 1, .int .i64 2, .slice (some ⟨b5, 0, none⟩) ([1, 2] : List Int).length 2, .slice (some ⟨b11, 0, none⟩) ([0, 3] : List Int).length 2, .slice (some ⟨b17, 0, none⟩) ([4096, 0] : List Int).length 2, .int .i64 10, .int .i64 1, .int .i64 0], .tuple #[.slice A68 vt60.length c69, .int .i64 vt61, .int .i64 vt62], .agg #[.int .i64 1, .int .i64 2, .slice (some ⟨b5, 0, none⟩) ([1, 2] : List Int).length 2, .slice (some ⟨b11, 0, none⟩) ([0, 3] : List Int).length 2, .slice (some ⟨b17, 0, none⟩) ([4096, 0] : List Int).length 2, .int .i64 10, .int .i64 1, .int .i64 0], .slice (some ⟨b31, 0, none⟩) ([13, 0] : List Int).length 2, .tuple #[.slice A68 vt60.length c69, .int .i64 vt61, .int .i64 vt62], .slice A68 vt60.length c69, .int .i64 vt61, .int .i64 vt62, undef, undef, undef, undef, undef, undef, undef, undef, undef, undef, undef, undef, undef, undef, undef, undef, undef, undef, undef, undef, undef, undef, undef, undef, undef, undef], []⟩) (by kernel_rfl) ?_
  refine wpList_nil ?_
  refine hK30 _ _ ?_
  refine wp_seq_k (fun K85 hK86 => ?_)
  refine wp_region_lit ?_
  refine seqK rfl (does_run (run_loadN (n := 8) rfl Try.underlying46 rfl (by kernel_rfl) (by kernel_rfl : _ = Value.pointer (some ⟨b23, 0, none⟩)) (cs := [.int .i64 1, .int .i64 2, .slice (some ⟨b5, 0, none⟩) ([1, 2] : List Int).length 2, .slice (some ⟨b11, 0, none⟩) ([0, 3] : List Int).length 2, .slice (some ⟨b17, 0, none⟩) ([4096, 0] : List Int).length 2, .int .i64 10, .int .i64 1, .int .i64 0]) rfl (HS84.u5.cells 0 8 _ rfl)) ?_)
  refine seqK rfl (does_lit (e := (tInt .i64)) (E := 25) (vs := #[(0, Value.int .i64 9), (1, Value.int .i64 9)]) (cs := #[.int .i64 9, .int .i64 9]) (xs := ([9, 9] : List Int)) rfl Try.underlying44 (by kernel_rfl) (by kernel_rfl) ⟨[.int .i64 9], _, rfl, rfl, ⟨[.int .i64 9], _, rfl, rfl, rfl⟩⟩ rfl HS84 ?_ (by decide))
  intro b87 W88 s89 HS90 _ HO91
  have HS93 := HS90.u1
  obtain ⟨f94, L95, HS96, HR97, th98⟩ := (HO9.mono L83).lend HS93
  have HS99 := HS96.u1
  obtain ⟨f100, L101, HS102, HR103, th104⟩ := (HO15.mono (L83.trans L95)).lend HS99
  have HS105 := HS102.u1
  obtain ⟨f106, L107, HS108, HR109, th110⟩ := (HO21.mono (L83.trans (L95.trans L101))).lend HS105
  obtain ⟨f111, L112, HS113, HR114, th115⟩ := (HO91.mono (L95.trans (L101.trans L107))).lend HS108
  have hq_ := bind_some h; clear h; obtain ⟨⟨vt116, vt117⟩, hc118, h⟩ := hq_
  refine seqK rfl (does_call (f := 26) (args := #[.agg #[.int .i64 1, .int .i64 2, .slice (some ⟨b5, 0, none⟩) ([1, 2] : List Int).length 2, .slice (some ⟨b11, 0, none⟩) ([0, 3] : List Int).length 2, .slice (some ⟨b17, 0, none⟩) ([4096, 0] : List Int).length 2, .int .i64 10, .int .i64 1, .int .i64 0], .slice (some ⟨b87, 0, none⟩) ([9, 9] : List Int).length 2, .int .i64 2]) (by kernel_rfl) (sensor_Expect.calls k (some ⟨b5, 0, none⟩) 2 (some ⟨b11, 0, none⟩) 2 (some ⟨b17, 0, none⟩) 2 (some ⟨b87, 0, none⟩) 2 (⟨1, 2, ([1, 2] : List Int), ([0, 3] : List Int), ([4096, 0] : List Int), 10, 1, 0⟩ : S_Sensor) ([9, 9] : List Int) 2 HS113 (HR97.mono (L101.trans (L107.trans L112))) (HR103.mono (L107.trans L112)) (HR109.mono L112) HR114 vt116 vt117 hc118) ?_)
  rintro _ W121 ⟨f119, A123, c124, s125, rfl, L120, HS122, HO126⟩
  refine ⟨_, rfl, ?_⟩
  obtain ⟨f128, L129, HS130⟩ := th115 L120 HS122
  obtain ⟨f131, L132, HS133⟩ := th110 L129 HS130
  obtain ⟨f134, L135, HS136⟩ := th104 L132 HS133
  obtain ⟨f137, L138, HS139⟩ := th98 L135 HS136
  replace HO126 := HO126.flat (g := f137) (fun _ _ _ _ h_ => h_)
  refine seqS5 (a' := ⟨#[.bool false, .pointer (some ⟨b23, 0, none⟩), .slice A68 vt60.length c69, .int .i64 vt61, .int .i64 vt62, .slice A123 vt116.length c124, .int .i64 vt117, .slice (some ⟨b5, 0, none⟩) ([1, 2] : List Int).length 2, .slice (some ⟨b11, 0, none⟩) ([0, 3] : List Int).length 2, .slice (some ⟨b17, 0, none⟩) ([4096, 0] : List Int).length 2, .agg #[.int .i64 1, .int .i64 2, .slice (some ⟨b5, 0, none⟩) ([1, 2] : List Int).length 2, .slice (some ⟨b11, 0, none⟩) ([0, 3] : List Int).length 2, .slice (some ⟨b17, 0, none⟩) ([4096, 0] : List Int).length 2, .int .i64 10, .int .i64 1, .int .i64 0], .tuple #[.slice A68 vt60.length c69, .int .i64 vt61, .int .i64 vt62], .agg #[.int .i64 1, .int .i64 2, .slice (some ⟨b5, 0, none⟩) ([1, 2] : List Int).length 2, .slice (some ⟨b11, 0, none⟩) ([0, 3] : List Int).length 2, .slice (some ⟨b17, 0, none⟩) ([4096, 0] : List Int).length 2, .int .i64 10, .int .i64 1, .int .i64 0], .slice (some ⟨b31, 0, none⟩) ([13, 0] : List Int).length 2, .tuple #[.slice A68 vt60.length c69, .int .i64 vt61, .int .i64 vt62], .slice A68 vt60.length c69, .int .i64 vt61, .int .i64 vt62, .tuple #[.slice A123 vt116.length c124, .int .i64 vt117], .agg #[.int .i64 1, .int .i64 2, .slice (some ⟨b5, 0, none⟩) ([1, 2] : List Int).length 2, .slice (some ⟨b11, 0, none⟩) ([0, 3] : List Int).length 2, .slice (some ⟨b17, 0, none⟩) ([4096, 0] : List Int).length 2, .int .i64 10, .int .i64 1, .int .i64 0], .slice (some ⟨b87, 0, none⟩) ([9, 9] : List Int).length 2, .tuple #[.slice A123 vt116.length c124, .int .i64 vt117], .slice A123 vt116.length c124, .int .i64 vt117, undef, undef, undef, undef, undef, undef, undef, undef, undef, undef, undef, undef, undef, undef, undef, undef, undef, undef, undef, undef], []⟩) (by kernel_rfl) ?_
  refine wpList_nil ?_
  refine hK86 _ _ ?_
  refine wp_seq_k (fun K140 hK141 => ?_)
  refine wp_region_lit ?_
  refine seqS3 (a' := ⟨#[.bool false, .pointer (some ⟨b23, 0, none⟩), .slice A68 vt60.length c69, .int .i64 vt61, .int .i64 vt62, .slice A123 vt116.length c124, .int .i64 vt117, .slice (some ⟨b5, 0, none⟩) ([1, 2] : List Int).length 2, .slice (some ⟨b11, 0, none⟩) ([0, 3] : List Int).length 2, .slice (some ⟨b17, 0, none⟩) ([4096, 0] : List Int).length 2, .agg #[.int .i64 1, .int .i64 2, .slice (some ⟨b5, 0, none⟩) ([1, 2] : List Int).length 2, .slice (some ⟨b11, 0, none⟩) ([0, 3] : List Int).length 2, .slice (some ⟨b17, 0, none⟩) ([4096, 0] : List Int).length 2, .int .i64 10, .int .i64 1, .int .i64 0], .tuple #[.slice A68 vt60.length c69, .int .i64 vt61, .int .i64 vt62], .agg #[.int .i64 1, .int .i64 2, .slice (some ⟨b5, 0, none⟩) ([1, 2] : List Int).length 2, .slice (some ⟨b11, 0, none⟩) ([0, 3] : List Int).length 2, .slice (some ⟨b17, 0, none⟩) ([4096, 0] : List Int).length 2, .int .i64 10, .int .i64 1, .int .i64 0], .slice (some ⟨b31, 0, none⟩) ([13, 0] : List Int).length 2, .tuple #[.slice A68 vt60.length c69, .int .i64 vt61, .int .i64 vt62], .slice A68 vt60.length c69, .int .i64 vt61, .int .i64 vt62, .tuple #[.slice A123 vt116.length c124, .int .i64 vt117], .agg #[.int .i64 1, .int .i64 2, .slice (some ⟨b5, 0, none⟩) ([1, 2] : List Int).length 2, .slice (some ⟨b11, 0, none⟩) ([0, 3] : List Int).length 2, .slice (some ⟨b17, 0, none⟩) ([4096, 0] : List Int).length 2, .int .i64 10, .int .i64 1, .int .i64 0], .slice (some ⟨b87, 0, none⟩) ([9, 9] : List Int).length 2, .tuple #[.slice A123 vt116.length c124, .int .i64 vt117], .slice A123 vt116.length c124, .int .i64 vt117, .int .i64 vt62, .bool (vt62 == 0), .bool (vt62 == 0), undef, undef, undef, undef, undef, undef, undef, undef, undef, undef, undef, undef, undef, undef, undef, undef, undef], []⟩) (by kernel_rfl) ?_
  have hq_ := ite_some h; clear h; rcases hq_ with ⟨c142, h⟩ | ⟨c142, h⟩
  · have c142 : vt62 = 0 := c142
    refine seqRwI 25 (x := (vt62 == 0)) (v := true) (by kernel_rfl) (beq_iff_eq.mpr c142) ?_
    refine seqRwI 26 (x := (vt62 == 0)) (v := true) (by kernel_rfl) (beq_iff_eq.mpr c142) ?_
    refine seqS4 (a' := ⟨#[.bool false, .pointer (some ⟨b23, 0, none⟩), .slice A68 vt60.length c69, .int .i64 vt61, .int .i64 vt62, .slice A123 vt116.length c124, .int .i64 vt117, .slice (some ⟨b5, 0, none⟩) ([1, 2] : List Int).length 2, .slice (some ⟨b11, 0, none⟩) ([0, 3] : List Int).length 2, .slice (some ⟨b17, 0, none⟩) ([4096, 0] : List Int).length 2, .agg #[.int .i64 1, .int .i64 2, .slice (some ⟨b5, 0, none⟩) ([1, 2] : List Int).length 2, .slice (some ⟨b11, 0, none⟩) ([0, 3] : List Int).length 2, .slice (some ⟨b17, 0, none⟩) ([4096, 0] : List Int).length 2, .int .i64 10, .int .i64 1, .int .i64 0], .tuple #[.slice A68 vt60.length c69, .int .i64 vt61, .int .i64 vt62], .agg #[.int .i64 1, .int .i64 2, .slice (some ⟨b5, 0, none⟩) ([1, 2] : List Int).length 2, .slice (some ⟨b11, 0, none⟩) ([0, 3] : List Int).length 2, .slice (some ⟨b17, 0, none⟩) ([4096, 0] : List Int).length 2, .int .i64 10, .int .i64 1, .int .i64 0], .slice (some ⟨b31, 0, none⟩) ([13, 0] : List Int).length 2, .tuple #[.slice A68 vt60.length c69, .int .i64 vt61, .int .i64 vt62], .slice A68 vt60.length c69, .int .i64 vt61, .int .i64 vt62, .tuple #[.slice A123 vt116.length c124, .int .i64 vt117], .agg #[.int .i64 1, .int .i64 2, .slice (some ⟨b5, 0, none⟩) ([1, 2] : List Int).length 2, .slice (some ⟨b11, 0, none⟩) ([0, 3] : List Int).length 2, .slice (some ⟨b17, 0, none⟩) ([4096, 0] : List Int).length 2, .int .i64 10, .int .i64 1, .int .i64 0], .slice (some ⟨b87, 0, none⟩) ([9, 9] : List Int).length 2, .tuple #[.slice A123 vt116.length c124, .int .i64 vt117], .slice A123 vt116.length c124, .int .i64 vt117, .int .i64 vt62, .bool true, .bool true, .int .i64 vt117, .bool (vt117 == 0), .bool (vt117 == 0), .bool (vt117 == 0), undef, undef, undef, undef, undef, undef, undef, undef, undef, undef, undef, undef, undef], []⟩) (by kernel_rfl) ?_
    have hq_ := ite_some h; clear h; rcases hq_ with ⟨c143, h⟩ | ⟨c143, h⟩
    · have c143 : vt117 = 0 := c143
      refine seqRwI 28 (x := (vt117 == 0)) (v := true) (by kernel_rfl) (beq_iff_eq.mpr c143) ?_
      refine seqRwI 29 (x := (vt117 == 0)) (v := true) (by kernel_rfl) (beq_iff_eq.mpr c143) ?_
      refine seqRwI 30 (x := (vt117 == 0)) (v := true) (by kernel_rfl) (beq_iff_eq.mpr c143) ?_
      refine seqS4 (a' := ⟨#[.bool false, .pointer (some ⟨b23, 0, none⟩), .slice A68 vt60.length c69, .int .i64 vt61, .int .i64 vt62, .slice A123 vt116.length c124, .int .i64 vt117, .slice (some ⟨b5, 0, none⟩) ([1, 2] : List Int).length 2, .slice (some ⟨b11, 0, none⟩) ([0, 3] : List Int).length 2, .slice (some ⟨b17, 0, none⟩) ([4096, 0] : List Int).length 2, .agg #[.int .i64 1, .int .i64 2, .slice (some ⟨b5, 0, none⟩) ([1, 2] : List Int).length 2, .slice (some ⟨b11, 0, none⟩) ([0, 3] : List Int).length 2, .slice (some ⟨b17, 0, none⟩) ([4096, 0] : List Int).length 2, .int .i64 10, .int .i64 1, .int .i64 0], .tuple #[.slice A68 vt60.length c69, .int .i64 vt61, .int .i64 vt62], .agg #[.int .i64 1, .int .i64 2, .slice (some ⟨b5, 0, none⟩) ([1, 2] : List Int).length 2, .slice (some ⟨b11, 0, none⟩) ([0, 3] : List Int).length 2, .slice (some ⟨b17, 0, none⟩) ([4096, 0] : List Int).length 2, .int .i64 10, .int .i64 1, .int .i64 0], .slice (some ⟨b31, 0, none⟩) ([13, 0] : List Int).length 2, .tuple #[.slice A68 vt60.length c69, .int .i64 vt61, .int .i64 vt62], .slice A68 vt60.length c69, .int .i64 vt61, .int .i64 vt62, .tuple #[.slice A123 vt116.length c124, .int .i64 vt117], .agg #[.int .i64 1, .int .i64 2, .slice (some ⟨b5, 0, none⟩) ([1, 2] : List Int).length 2, .slice (some ⟨b11, 0, none⟩) ([0, 3] : List Int).length 2, .slice (some ⟨b17, 0, none⟩) ([4096, 0] : List Int).length 2, .int .i64 10, .int .i64 1, .int .i64 0], .slice (some ⟨b87, 0, none⟩) ([9, 9] : List Int).length 2, .tuple #[.slice A123 vt116.length c124, .int .i64 vt117], .slice A123 vt116.length c124, .int .i64 vt117, .int .i64 vt62, .bool true, .bool true, .int .i64 vt117, .bool true, .bool true, .bool true, .int .i64 vt61, .bool (vt61 == 1), .bool (vt61 == 1), .bool (vt61 == 1), undef, undef, undef, undef, undef, undef, undef, undef, undef], []⟩) (by kernel_rfl) ?_
      have hq_ := ite_some h; clear h; rcases hq_ with ⟨c144, h⟩ | ⟨c144, h⟩
      · have c144 : vt61 = 1 := c144
        refine seqRwI 32 (x := (vt61 == 1)) (v := true) (by kernel_rfl) (beq_iff_eq.mpr c144) ?_
        refine seqRwI 33 (x := (vt61 == 1)) (v := true) (by kernel_rfl) (beq_iff_eq.mpr c144) ?_
        refine seqRwI 34 (x := (vt61 == 1)) (v := true) (by kernel_rfl) (beq_iff_eq.mpr c144) ?_
        refine seqL1 (by kernel_rfl) ?_
        refine seqG (by kernel_rfl) (does_lit (e := (tInt .i64)) (E := 22) (vs := #[(0, Value.int .i64 10), (1, Value.int .i64 2)]) (cs := #[.int .i64 10, .int .i64 2]) (xs := ([10, 2] : List Int)) rfl Try.underlying48 (by kernel_rfl) (by kernel_rfl) ⟨[.int .i64 10], _, rfl, rfl, ⟨[.int .i64 2], _, rfl, rfl, rfl⟩⟩ rfl HS139 ?_ (by decide))
        intro b145 W146 s147 HS148 _ HO149
        have HS151 := HS148.u7
        obtain ⟨f152, L153, HS154, HR155, th156⟩ := (HO71.mono L138).lend HS151
        obtain ⟨f157, L158, HS159, HR160, th161⟩ := (HO149.mono L153).lend HS154
        have hq_ := bind_some h; clear h; obtain ⟨vt162, hc163, h⟩ := hq_
        refine seqG (by kernel_rfl) (does_call (f := 51) (args := #[.slice A68 vt60.length c69, .slice (some ⟨b145, 0, none⟩) ([10, 2] : List Int).length 2]) (by kernel_rfl) (slices_Equal_Quanta.calls k A68 c69 (some ⟨b145, 0, none⟩) 2 vt60 ([10, 2] : List Int) HS159 (HR155.mono L158) HR160 vt162 hc163) ?_)
        rintro _ W166 ⟨f164, rfl, L165, HS167⟩
        refine ⟨_, rfl, ?_⟩
        obtain ⟨f168, L169, HS170⟩ := th161 L165 HS167
        obtain ⟨f171, L172, HS173⟩ := th156 L169 HS170
        refine seqS2 (a' := ⟨#[.bool false, .pointer (some ⟨b23, 0, none⟩), .slice A68 vt60.length c69, .int .i64 vt61, .int .i64 vt62, .slice A123 vt116.length c124, .int .i64 vt117, .slice (some ⟨b5, 0, none⟩) ([1, 2] : List Int).length 2, .slice (some ⟨b11, 0, none⟩) ([0, 3] : List Int).length 2, .slice (some ⟨b17, 0, none⟩) ([4096, 0] : List Int).length 2, .agg #[.int .i64 1, .int .i64 2, .slice (some ⟨b5, 0, none⟩) ([1, 2] : List Int).length 2, .slice (some ⟨b11, 0, none⟩) ([0, 3] : List Int).length 2, .slice (some ⟨b17, 0, none⟩) ([4096, 0] : List Int).length 2, .int .i64 10, .int .i64 1, .int .i64 0], .tuple #[.slice A68 vt60.length c69, .int .i64 vt61, .int .i64 vt62], .agg #[.int .i64 1, .int .i64 2, .slice (some ⟨b5, 0, none⟩) ([1, 2] : List Int).length 2, .slice (some ⟨b11, 0, none⟩) ([0, 3] : List Int).length 2, .slice (some ⟨b17, 0, none⟩) ([4096, 0] : List Int).length 2, .int .i64 10, .int .i64 1, .int .i64 0], .slice (some ⟨b31, 0, none⟩) ([13, 0] : List Int).length 2, .tuple #[.slice A68 vt60.length c69, .int .i64 vt61, .int .i64 vt62], .slice A68 vt60.length c69, .int .i64 vt61, .int .i64 vt62, .tuple #[.slice A123 vt116.length c124, .int .i64 vt117], .agg #[.int .i64 1, .int .i64 2, .slice (some ⟨b5, 0, none⟩) ([1, 2] : List Int).length 2, .slice (some ⟨b11, 0, none⟩) ([0, 3] : List Int).length 2, .slice (some ⟨b17, 0, none⟩) ([4096, 0] : List Int).length 2, .int .i64 10, .int .i64 1, .int .i64 0], .slice (some ⟨b87, 0, none⟩) ([9, 9] : List Int).length 2, .tuple #[.slice A123 vt116.length c124, .int .i64 vt117], .slice A123 vt116.length c124, .int .i64 vt117, .int .i64 vt62, .bool true, .bool true, .int .i64 vt117, .bool true, .bool true, .bool true, .int .i64 vt61, .bool true, .bool true, .bool true, .slice A68 vt60.length c69, .slice (some ⟨b145, 0, none⟩) ([10, 2] : List Int).length 2, .bool vt162, .bool vt162, .bool vt162, undef, undef, undef, undef], []⟩) (by kernel_rfl) ?_
        have hq_ := ite_some h; clear h; rcases hq_ with ⟨c174, h⟩ | ⟨c174, h⟩
        · have c174 : vt162 = true := c174
          refine seqRwI 37 (x := vt162) (v := true) (by kernel_rfl) c174 ?_
          refine seqRwI 38 (x := vt162) (v := true) (by kernel_rfl) c174 ?_
          refine seqRwI 39 (x := vt162) (v := true) (by kernel_rfl) c174 ?_
          refine seqL1 (by kernel_rfl) ?_
          refine seqG (by kernel_rfl) (does_lit (e := (tInt .i64)) (E := 25) (vs := #[(0, Value.int .i64 9), (1, Value.int .i64 6)]) (cs := #[.int .i64 9, .int .i64 6]) (xs := ([9, 6] : List Int)) rfl Try.underlying44 (by kernel_rfl) (by kernel_rfl) ⟨[.int .i64 9], _, rfl, rfl, ⟨[.int .i64 6], _, rfl, rfl, rfl⟩⟩ rfl HS173 ?_ (by decide))
          intro b175 W176 s177 HS178 _ HO179
          have HS181 := HS178.u7
          obtain ⟨f182, L183, HS184, HR185, th186⟩ := (HO126.mono L172).lend HS181
          obtain ⟨f187, L188, HS189, HR190, th191⟩ := (HO179.mono L183).lend HS184
          have hq_ := bind_some h; clear h; obtain ⟨vt192, hc193, h⟩ := hq_
          refine seqG (by kernel_rfl) (does_call (f := 52) (args := #[.slice A123 vt116.length c124, .slice (some ⟨b175, 0, none⟩) ([9, 6] : List Int).length 2]) (by kernel_rfl) (slices_Equal_Light.calls k A123 c124 (some ⟨b175, 0, none⟩) 2 vt116 ([9, 6] : List Int) HS189 (HR185.mono L188) HR190 vt192 hc193) ?_)
          rintro _ W196 ⟨f194, rfl, L195, HS197⟩
          refine ⟨_, rfl, ?_⟩
          obtain ⟨f198, L199, HS200⟩ := th191 L195 HS197
          obtain ⟨f201, L202, HS203⟩ := th186 L199 HS200
          refine seqS2 (a' := ⟨#[.bool vt192, .pointer (some ⟨b23, 0, none⟩), .slice A68 vt60.length c69, .int .i64 vt61, .int .i64 vt62, .slice A123 vt116.length c124, .int .i64 vt117, .slice (some ⟨b5, 0, none⟩) ([1, 2] : List Int).length 2, .slice (some ⟨b11, 0, none⟩) ([0, 3] : List Int).length 2, .slice (some ⟨b17, 0, none⟩) ([4096, 0] : List Int).length 2, .agg #[.int .i64 1, .int .i64 2, .slice (some ⟨b5, 0, none⟩) ([1, 2] : List Int).length 2, .slice (some ⟨b11, 0, none⟩) ([0, 3] : List Int).length 2, .slice (some ⟨b17, 0, none⟩) ([4096, 0] : List Int).length 2, .int .i64 10, .int .i64 1, .int .i64 0], .tuple #[.slice A68 vt60.length c69, .int .i64 vt61, .int .i64 vt62], .agg #[.int .i64 1, .int .i64 2, .slice (some ⟨b5, 0, none⟩) ([1, 2] : List Int).length 2, .slice (some ⟨b11, 0, none⟩) ([0, 3] : List Int).length 2, .slice (some ⟨b17, 0, none⟩) ([4096, 0] : List Int).length 2, .int .i64 10, .int .i64 1, .int .i64 0], .slice (some ⟨b31, 0, none⟩) ([13, 0] : List Int).length 2, .tuple #[.slice A68 vt60.length c69, .int .i64 vt61, .int .i64 vt62], .slice A68 vt60.length c69, .int .i64 vt61, .int .i64 vt62, .tuple #[.slice A123 vt116.length c124, .int .i64 vt117], .agg #[.int .i64 1, .int .i64 2, .slice (some ⟨b5, 0, none⟩) ([1, 2] : List Int).length 2, .slice (some ⟨b11, 0, none⟩) ([0, 3] : List Int).length 2, .slice (some ⟨b17, 0, none⟩) ([4096, 0] : List Int).length 2, .int .i64 10, .int .i64 1, .int .i64 0], .slice (some ⟨b87, 0, none⟩) ([9, 9] : List Int).length 2, .tuple #[.slice A123 vt116.length c124, .int .i64 vt117], .slice A123 vt116.length c124, .int .i64 vt117, .int .i64 vt62, .bool true, .bool true, .int .i64 vt117, .bool true, .bool true, .bool true, .int .i64 vt61, .bool true, .bool true, .bool true, .slice A68 vt60.length c69, .slice (some ⟨b145, 0, none⟩) ([10, 2] : List Int).length 2, .bool true, .bool true, .bool true, .slice A123 vt116.length c124, .slice (some ⟨b175, 0, none⟩) ([9, 6] : List Int).length 2, .bool vt192, .bool vt192], []⟩) (by kernel_rfl) ?_
          refine wpList_nil ?_
          refine hK141 _ _ ?_
          refine wp_ret ?_
          refine hret _ _ ?_
          refine ends_still (v := Value.bool vt192) (by kernel_rfl) (by kernel_rfl) ?_
          have HS204 := HS203.drop
          have HS205 := HS204.drop
          have HS206 := HS205.drop
          have HS207 := HS206.drop
          have HS208 := HS207.drop
          have HS209 := HS208.drop
          have HS210 := HS209.drop
          have HS211 := HS210.drop
          have HS212 := HS211.drop
          have HS213 := HS212.drop
          injection h with h
          subst h
          exact ⟨f201, rfl, (L83.trans (L138.trans (L172.trans L202))), HS213⟩
        · have c174 : ¬ (vt162 = true) := c174
          refine seqRwI 37 (x := vt162) (v := false) (by kernel_rfl) (Bool.eq_false_iff.mpr c174) ?_
          refine seqRwI 38 (x := vt162) (v := false) (by kernel_rfl) (Bool.eq_false_iff.mpr c174) ?_
          refine seqRwI 39 (x := vt162) (v := false) (by kernel_rfl) (Bool.eq_false_iff.mpr c174) ?_
          refine seqS5 (a' := ⟨#[.bool false, .pointer (some ⟨b23, 0, none⟩), .slice A68 vt60.length c69, .int .i64 vt61, .int .i64 vt62, .slice A123 vt116.length c124, .int .i64 vt117, .slice (some ⟨b5, 0, none⟩) ([1, 2] : List Int).length 2, .slice (some ⟨b11, 0, none⟩) ([0, 3] : List Int).length 2, .slice (some ⟨b17, 0, none⟩) ([4096, 0] : List Int).length 2, .agg #[.int .i64 1, .int .i64 2, .slice (some ⟨b5, 0, none⟩) ([1, 2] : List Int).length 2, .slice (some ⟨b11, 0, none⟩) ([0, 3] : List Int).length 2, .slice (some ⟨b17, 0, none⟩) ([4096, 0] : List Int).length 2, .int .i64 10, .int .i64 1, .int .i64 0], .tuple #[.slice A68 vt60.length c69, .int .i64 vt61, .int .i64 vt62], .agg #[.int .i64 1, .int .i64 2, .slice (some ⟨b5, 0, none⟩) ([1, 2] : List Int).length 2, .slice (some ⟨b11, 0, none⟩) ([0, 3] : List Int).length 2, .slice (some ⟨b17, 0, none⟩) ([4096, 0] : List Int).length 2, .int .i64 10, .int .i64 1, .int .i64 0], .slice (some ⟨b31, 0, none⟩) ([13, 0] : List Int).length 2, .tuple #[.slice A68 vt60.length c69, .int .i64 vt61, .int .i64 vt62], .slice A68 vt60.length c69, .int .i64 vt61, .int .i64 vt62, .tuple #[.slice A123 vt116.length c124, .int .i64 vt117], .agg #[.int .i64 1, .int .i64 2, .slice (some ⟨b5, 0, none⟩) ([1, 2] : List Int).length 2, .slice (some ⟨b11, 0, none⟩) ([0, 3] : List Int).length 2, .slice (some ⟨b17, 0, none⟩) ([4096, 0] : List Int).length 2, .int .i64 10, .int .i64 1, .int .i64 0], .slice (some ⟨b87, 0, none⟩) ([9, 9] : List Int).length 2, .tuple #[.slice A123 vt116.length c124, .int .i64 vt117], .slice A123 vt116.length c124, .int .i64 vt117, .int .i64 vt62, .bool true, .bool true, .int .i64 vt117, .bool true, .bool true, .bool true, .int .i64 vt61, .bool true, .bool true, .bool true, .slice A68 vt60.length c69, .slice (some ⟨b145, 0, none⟩) ([10, 2] : List Int).length 2, .bool false, .bool false, .bool false, undef, undef, undef, .bool false], []⟩) (by kernel_rfl) ?_
          refine wpList_nil ?_
          refine hK141 _ _ ?_
          refine wp_ret ?_
          refine hret _ _ ?_
          refine ends_still (v := Value.bool false) (by kernel_rfl) (by kernel_rfl) ?_
          have HS214 := HS173.drop
          have HS215 := HS214.drop
          have HS216 := HS215.drop
          have HS217 := HS216.drop
          have HS218 := HS217.drop
          have HS219 := HS218.drop
          have HS220 := HS219.drop
          have HS221 := HS220.drop
          have HS222 := HS221.drop
          injection h with h
          subst h
          exact ⟨f171, rfl, (L83.trans (L138.trans L172)), HS222⟩
      · have c144 : ¬ (vt61 = 1) := c144
        refine seqRwI 32 (x := (vt61 == 1)) (v := false) (by kernel_rfl) (beq_eq_false_iff_ne.mpr c144) ?_
        refine seqRwI 33 (x := (vt61 == 1)) (v := false) (by kernel_rfl) (beq_eq_false_iff_ne.mpr c144) ?_
        refine seqRwI 34 (x := (vt61 == 1)) (v := false) (by kernel_rfl) (beq_eq_false_iff_ne.mpr c144) ?_
        refine seqS10 (a' := ⟨#[.bool false, .pointer (some ⟨b23, 0, none⟩), .slice A68 vt60.length c69, .int .i64 vt61, .int .i64 vt62, .slice A123 vt116.length c124, .int .i64 vt117, .slice (some ⟨b5, 0, none⟩) ([1, 2] : List Int).length 2, .slice (some ⟨b11, 0, none⟩) ([0, 3] : List Int).length 2, .slice (some ⟨b17, 0, none⟩) ([4096, 0] : List Int).length 2, .agg #[.int .i64 1, .int .i64 2, .slice (some ⟨b5, 0, none⟩) ([1, 2] : List Int).length 2, .slice (some ⟨b11, 0, none⟩) ([0, 3] : List Int).length 2, .slice (some ⟨b17, 0, none⟩) ([4096, 0] : List Int).length 2, .int .i64 10, .int .i64 1, .int .i64 0], .tuple #[.slice A68 vt60.length c69, .int .i64 vt61, .int .i64 vt62], .agg #[.int .i64 1, .int .i64 2, .slice (some ⟨b5, 0, none⟩) ([1, 2] : List Int).length 2, .slice (some ⟨b11, 0, none⟩) ([0, 3] : List Int).length 2, .slice (some ⟨b17, 0, none⟩) ([4096, 0] : List Int).length 2, .int .i64 10, .int .i64 1, .int .i64 0], .slice (some ⟨b31, 0, none⟩) ([13, 0] : List Int).length 2, .tuple #[.slice A68 vt60.length c69, .int .i64 vt61, .int .i64 vt62], .slice A68 vt60.length c69, .int .i64 vt61, .int .i64 vt62, .tuple #[.slice A123 vt116.length c124, .int .i64 vt117], .agg #[.int .i64 1, .int .i64 2, .slice (some ⟨b5, 0, none⟩) ([1, 2] : List Int).length 2, .slice (some ⟨b11, 0, none⟩) ([0, 3] : List Int).length 2, .slice (some ⟨b17, 0, none⟩) ([4096, 0] : List Int).length 2, .int .i64 10, .int .i64 1, .int .i64 0], .slice (some ⟨b87, 0, none⟩) ([9, 9] : List Int).length 2, .tuple #[.slice A123 vt116.length c124, .int .i64 vt117], .slice A123 vt116.length c124, .int .i64 vt117, .int .i64 vt62, .bool true, .bool true, .int .i64 vt117, .bool true, .bool true, .bool true, .int .i64 vt61, .bool false, .bool false, .bool false, undef, undef, undef, .bool false, .bool false, undef, undef, undef, .bool false], []⟩) (by kernel_rfl) ?_
        refine wpList_nil ?_
        refine hK141 _ _ ?_
        refine wp_ret ?_
        refine hret _ _ ?_
        refine ends_still (v := Value.bool false) (by kernel_rfl) (by kernel_rfl) ?_
        have HS223 := HS139.drop
        have HS224 := HS223.drop
        have HS225 := HS224.drop
        have HS226 := HS225.drop
        have HS227 := HS226.drop
        have HS228 := HS227.drop
        have HS229 := HS228.drop
        have HS230 := HS229.drop
        injection h with h
        subst h
        exact ⟨f137, rfl, (L83.trans L138), HS230⟩
    · have c143 : ¬ (vt117 = 0) := c143
      refine seqRwI 28 (x := (vt117 == 0)) (v := false) (by kernel_rfl) (beq_eq_false_iff_ne.mpr c143) ?_
      refine seqRwI 29 (x := (vt117 == 0)) (v := false) (by kernel_rfl) (beq_eq_false_iff_ne.mpr c143) ?_
      refine seqRwI 30 (x := (vt117 == 0)) (v := false) (by kernel_rfl) (beq_eq_false_iff_ne.mpr c143) ?_
      refine seqS14 (a' := ⟨#[.bool false, .pointer (some ⟨b23, 0, none⟩), .slice A68 vt60.length c69, .int .i64 vt61, .int .i64 vt62, .slice A123 vt116.length c124, .int .i64 vt117, .slice (some ⟨b5, 0, none⟩) ([1, 2] : List Int).length 2, .slice (some ⟨b11, 0, none⟩) ([0, 3] : List Int).length 2, .slice (some ⟨b17, 0, none⟩) ([4096, 0] : List Int).length 2, .agg #[.int .i64 1, .int .i64 2, .slice (some ⟨b5, 0, none⟩) ([1, 2] : List Int).length 2, .slice (some ⟨b11, 0, none⟩) ([0, 3] : List Int).length 2, .slice (some ⟨b17, 0, none⟩) ([4096, 0] : List Int).length 2, .int .i64 10, .int .i64 1, .int .i64 0], .tuple #[.slice A68 vt60.length c69, .int .i64 vt61, .int .i64 vt62], .agg #[.int .i64 1, .int .i64 2, .slice (some ⟨b5, 0, none⟩) ([1, 2] : List Int).length 2, .slice (some ⟨b11, 0, none⟩) ([0, 3] : List Int).length 2, .slice (some ⟨b17, 0, none⟩) ([4096, 0] : List Int).length 2, .int .i64 10, .int .i64 1, .int .i64 0], .slice (some ⟨b31, 0, none⟩) ([13, 0] : List Int).length 2, .tuple #[.slice A68 vt60.length c69, .int .i64 vt61, .int .i64 vt62], .slice A68 vt60.length c69, .int .i64 vt61, .int .i64 vt62, .tuple #[.slice A123 vt116.length c124, .int .i64 vt117], .agg #[.int .i64 1, .int .i64 2, .slice (some ⟨b5, 0, none⟩) ([1, 2] : List Int).length 2, .slice (some ⟨b11, 0, none⟩) ([0, 3] : List Int).length 2, .slice (some ⟨b17, 0, none⟩) ([4096, 0] : List Int).length 2, .int .i64 10, .int .i64 1, .int .i64 0], .slice (some ⟨b87, 0, none⟩) ([9, 9] : List Int).length 2, .tuple #[.slice A123 vt116.length c124, .int .i64 vt117], .slice A123 vt116.length c124, .int .i64 vt117, .int .i64 vt62, .bool true, .bool true, .int .i64 vt117, .bool false, .bool false, .bool false, undef, undef, .bool false, .bool false, undef, undef, undef, .bool false, .bool false, undef, undef, undef, .bool false], []⟩) (by kernel_rfl) ?_
      refine wpList_nil ?_
      refine hK141 _ _ ?_
      refine wp_ret ?_
      refine hret _ _ ?_
      refine ends_still (v := Value.bool false) (by kernel_rfl) (by kernel_rfl) ?_
      have HS231 := HS139.drop
      have HS232 := HS231.drop
      have HS233 := HS232.drop
      have HS234 := HS233.drop
      have HS235 := HS234.drop
      have HS236 := HS235.drop
      have HS237 := HS236.drop
      have HS238 := HS237.drop
      injection h with h
      subst h
      exact ⟨f137, rfl, (L83.trans L138), HS238⟩
  · have c142 : ¬ (vt62 = 0) := c142
    refine seqRwI 25 (x := (vt62 == 0)) (v := false) (by kernel_rfl) (beq_eq_false_iff_ne.mpr c142) ?_
    refine seqRwI 26 (x := (vt62 == 0)) (v := false) (by kernel_rfl) (beq_eq_false_iff_ne.mpr c142) ?_
    refine seqS18 (a' := ⟨#[.bool false, .pointer (some ⟨b23, 0, none⟩), .slice A68 vt60.length c69, .int .i64 vt61, .int .i64 vt62, .slice A123 vt116.length c124, .int .i64 vt117, .slice (some ⟨b5, 0, none⟩) ([1, 2] : List Int).length 2, .slice (some ⟨b11, 0, none⟩) ([0, 3] : List Int).length 2, .slice (some ⟨b17, 0, none⟩) ([4096, 0] : List Int).length 2, .agg #[.int .i64 1, .int .i64 2, .slice (some ⟨b5, 0, none⟩) ([1, 2] : List Int).length 2, .slice (some ⟨b11, 0, none⟩) ([0, 3] : List Int).length 2, .slice (some ⟨b17, 0, none⟩) ([4096, 0] : List Int).length 2, .int .i64 10, .int .i64 1, .int .i64 0], .tuple #[.slice A68 vt60.length c69, .int .i64 vt61, .int .i64 vt62], .agg #[.int .i64 1, .int .i64 2, .slice (some ⟨b5, 0, none⟩) ([1, 2] : List Int).length 2, .slice (some ⟨b11, 0, none⟩) ([0, 3] : List Int).length 2, .slice (some ⟨b17, 0, none⟩) ([4096, 0] : List Int).length 2, .int .i64 10, .int .i64 1, .int .i64 0], .slice (some ⟨b31, 0, none⟩) ([13, 0] : List Int).length 2, .tuple #[.slice A68 vt60.length c69, .int .i64 vt61, .int .i64 vt62], .slice A68 vt60.length c69, .int .i64 vt61, .int .i64 vt62, .tuple #[.slice A123 vt116.length c124, .int .i64 vt117], .agg #[.int .i64 1, .int .i64 2, .slice (some ⟨b5, 0, none⟩) ([1, 2] : List Int).length 2, .slice (some ⟨b11, 0, none⟩) ([0, 3] : List Int).length 2, .slice (some ⟨b17, 0, none⟩) ([4096, 0] : List Int).length 2, .int .i64 10, .int .i64 1, .int .i64 0], .slice (some ⟨b87, 0, none⟩) ([9, 9] : List Int).length 2, .tuple #[.slice A123 vt116.length c124, .int .i64 vt117], .slice A123 vt116.length c124, .int .i64 vt117, .int .i64 vt62, .bool false, .bool false, undef, undef, .bool false, .bool false, undef, undef, .bool false, .bool false, undef, undef, undef, .bool false, .bool false, undef, undef, undef, .bool false], []⟩) (by kernel_rfl) ?_
    refine wpList_nil ?_
    refine hK141 _ _ ?_
    refine wp_ret ?_
    refine hret _ _ ?_
    refine ends_still (v := Value.bool false) (by kernel_rfl) (by kernel_rfl) ?_
    have HS239 := HS139.drop
    have HS240 := HS239.drop
    have HS241 := HS240.drop
    have HS242 := HS241.drop
    have HS243 := HS242.drop
    have HS244 := HS243.drop
    have HS245 := HS244.drop
    have HS246 := HS245.drop
    injection h with h
    subst h
    exact ⟨f137, rfl, (L83.trans L138), HS246⟩

end Go.Sp.X7
