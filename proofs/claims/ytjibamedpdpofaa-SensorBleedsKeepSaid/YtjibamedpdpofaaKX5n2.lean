import Derived.Test.YtjibamedpdpofaaProg
import Derived.Test.YtjibamedpdpofaaSpMore
import Derived.Test.YtjibamedpdpofaaFX5
import Derived.Test.YtjibamedpdpofaaKX5n0
import Derived.Test.YtjibamedpdpofaaKX5n1
namespace Go.Sp.X5
open Go Go.Sp Go.Proofs
set_option linter.unusedVariables false
attribute [local irreducible] wpList AnyL Code.wp Calls Does
set_option maxRecDepth 100000 in
set_option maxHeartbeats 4000000 in
theorem sensor_Bleed.calls (k : Nat) (A2 : Option Addr) (c3 : Nat) (A5 : Option Addr) (c6 : Nat) (A8 : Option Addr) (c9 : Nat) (A12 : Option Addr) (c13 : Nat) (s1 : S_Sensor) (q11 : List Int) {t w : World} {f : FM} {H : List Seg} (HS : St t w f (H)) (HR4 : SlR (tInt .i64) f A2 c3 s1.Bias) (HR7 : SlR (tInt .i64) f A5 c6 s1.Dark) (HR10 : SlR (tInt .i64) f A8 c9 s1.Flat) (HR14 : SlR (tInt .i64) f A12 c13 q11) (r1 : List Int) (r2 : Int) (r3 : Int) (h : sensor_Bleed k s1 q11 = some (r1, r2, r3)) :
    Calls Try.prog 21 #[.agg #[.int .i64 s1.W, .int .i64 s1.H, .slice A2 s1.Bias.length c3, .slice A5 s1.Dark.length c6, .slice A8 s1.Flat.length c9, .int .i64 s1.Full, .int .i64 s1.Gain, .int .i64 s1.Noise], .slice A12 q11.length c13] w (fun e w' => ∃ (g : FM) (A557 : Option Addr) (c558 : Nat) (s559 : Seg), e = .returned (Value.tuple #[.slice A557 r1.length c558, .int .i64 r2, .int .i64 r3]) ∧ FM.le f g ∧ St t w' g (s559 :: H) ∧ Own (tInt .i64) 22 g A557 c558 s559 r1) := by
  unfold sensor_Bleed at h
  refine enter Try.func21 rfl (tm := #[.agg #[.int .i64 s1.W, .int .i64 s1.H, .slice A2 s1.Bias.length c3, .slice A5 s1.Dark.length c6, .slice A8 s1.Flat.length c9, .int .i64 s1.Full, .int .i64 s1.Gain, .int .i64 s1.Noise], .slice A12 q11.length c13, undef, undef, undef, undef, undef, undef, undef, undef, undef, undef, undef, undef, undef, undef, undef, undef, undef, undef, undef, undef, undef, undef, undef, undef, undef, undef, undef, undef, undef, undef, undef, undef, undef, undef, undef, undef, undef, undef, undef, undef, undef, undef, undef, undef, undef, undef, undef, undef, undef, undef, undef, undef, undef, undef, undef, undef, undef, undef, undef, undef, undef, undef, undef, undef, undef, undef, undef, undef, undef, undef, undef, undef, undef, undef, undef, undef, undef, undef, undef]) (by kernel_rfl) ?_
  intro B hret hnor hnp
  refine wp_seq_k (fun K15 hK16 => ?_)
  refine wp_region_lit ?_
  refine seqK rfl (does_box (cs := #[.int .i64 s1.W, .int .i64 s1.H, .slice A2 s1.Bias.length c3, .slice A5 s1.Dark.length c6, .slice A8 s1.Flat.length c9, .int .i64 s1.Full, .int .i64 s1.Gain, .int .i64 s1.Noise]) rfl (by kernel_rfl : _ = Value.agg #[.int .i64 s1.W, .int .i64 s1.H, .slice A2 s1.Bias.length c3, .slice A5 s1.Dark.length c6, .slice A8 s1.Flat.length c9, .int .i64 s1.Full, .int .i64 s1.Gain, .int .i64 s1.Noise]) rfl HS ?_)
  intro b17 W18 HS19
  refine seqK rfl (does_box (cs := #[.slice A12 q11.length c13]) rfl (by kernel_rfl : _ = Value.slice A12 q11.length c13) rfl HS19 ?_)
  intro b21 W22 HS23
  refine seqS3 (a' := ⟨#[.agg #[.int .i64 s1.W, .int .i64 s1.H, .slice A2 s1.Bias.length c3, .slice A5 s1.Dark.length c6, .slice A8 s1.Flat.length c9, .int .i64 s1.Full, .int .i64 s1.Gain, .int .i64 s1.Noise], .slice A12 q11.length c13, .pointer (some ⟨b17, 0, none⟩), .pointer (some ⟨b21, 0, none⟩), .slice none 0 0, .int .i64 0, .int .i64 0, undef, undef, undef, undef, undef, undef, undef, undef, undef, undef, undef, undef, undef, undef, undef, undef, undef, undef, undef, undef, undef, undef, undef, undef, undef, undef, undef, undef, undef, undef, undef, undef, undef, undef, undef, undef, undef, undef, undef, undef, undef, undef, undef, undef, undef, undef, undef, undef, undef, undef, undef, undef, undef, undef, undef, undef, undef, undef, undef, undef, undef, undef, undef, undef, undef, undef, undef, undef, undef, undef, undef, undef, undef, undef], []⟩) (by kernel_rfl) ?_
  refine wpList_nil ?_
  refine hK16 _ _ ?_
  refine wp_seq_k (fun K25 hK26 => ?_)
  refine wp_seq_k (fun K27 hK28 => ?_)
  refine wp_region_lit ?_
  refine seqK rfl (does_run (run_loadN (n := 8) rfl Try.underlying46 rfl (by kernel_rfl) (by kernel_rfl : _ = Value.pointer (some ⟨b17, 0, none⟩)) (cs := [.int .i64 s1.W, .int .i64 s1.H, .slice A2 s1.Bias.length c3, .slice A5 s1.Dark.length c6, .slice A8 s1.Flat.length c9, .int .i64 s1.Full, .int .i64 s1.Gain, .int .i64 s1.Noise]) rfl (HS23.u1.cells 0 8 _ rfl)) ?_)
  refine seqK rfl (does_run (run_load rfl Try.underlying48 rfl (by kernel_rfl : _ = Value.pointer (some ⟨b21, 0, none⟩)) (HS23.cell 0)) ?_)
  have hq_ := bind_some h; clear h; obtain ⟨vt29, hc30, h⟩ := hq_
  refine seqL1 (by kernel_rfl) ?_
  refine seqK rfl (does_call (f := 44) (args := #[.agg #[.int .i64 s1.W, .int .i64 s1.H, .slice A2 s1.Bias.length c3, .slice A5 s1.Dark.length c6, .slice A8 s1.Flat.length c9, .int .i64 s1.Full, .int .i64 s1.Gain, .int .i64 s1.Noise], .int .i64 (q11.length : Int)]) (by kernel_rfl) (sensor_sized.calls k A2 c3 A5 c6 A8 c9 s1 (q11.length : Int) HS23 HR4 HR7 HR10 vt29 hc30) ?_)
  rintro _ W33 ⟨f31, rfl, L32, HS34⟩
  refine ⟨_, rfl, ?_⟩
  refine seqS1 (a' := ⟨#[.agg #[.int .i64 s1.W, .int .i64 s1.H, .slice A2 s1.Bias.length c3, .slice A5 s1.Dark.length c6, .slice A8 s1.Flat.length c9, .int .i64 s1.Full, .int .i64 s1.Gain, .int .i64 s1.Noise], .slice A12 q11.length c13, .pointer (some ⟨b17, 0, none⟩), .pointer (some ⟨b21, 0, none⟩), .slice none 0 0, .int .i64 0, .int .i64 0, .int .i64 vt29, undef, undef, undef, undef, undef, undef, .agg #[.int .i64 s1.W, .int .i64 s1.H, .slice A2 s1.Bias.length c3, .slice A5 s1.Dark.length c6, .slice A8 s1.Flat.length c9, .int .i64 s1.Full, .int .i64 s1.Gain, .int .i64 s1.Noise], .slice A12 q11.length c13, .int .i64 (q11.length : Int), .int .i64 vt29, undef, undef, undef, undef, undef, undef, undef, undef, undef, undef, undef, undef, undef, undef, undef, undef, undef, undef, undef, undef, undef, undef, undef, undef, undef, undef, undef, undef, undef, undef, undef, undef, undef, undef, undef, undef, undef, undef, undef, undef, undef, undef, undef, undef, undef, undef, undef, undef, undef, undef, undef, undef, undef, undef, undef, undef, undef, undef, undef, undef, undef, undef, undef], []⟩) (by kernel_rfl) ?_
  refine wpList_nil ?_
  refine hK28 _ _ ?_
  refine wp_seq_k (fun K35 hK36 => ?_)
  refine wp_region_lit ?_
  refine seqS2 (a' := ⟨#[.agg #[.int .i64 s1.W, .int .i64 s1.H, .slice A2 s1.Bias.length c3, .slice A5 s1.Dark.length c6, .slice A8 s1.Flat.length c9, .int .i64 s1.Full, .int .i64 s1.Gain, .int .i64 s1.Noise], .slice A12 q11.length c13, .pointer (some ⟨b17, 0, none⟩), .pointer (some ⟨b21, 0, none⟩), .slice none 0 0, .int .i64 0, .int .i64 0, .int .i64 vt29, undef, undef, undef, undef, undef, undef, .agg #[.int .i64 s1.W, .int .i64 s1.H, .slice A2 s1.Bias.length c3, .slice A5 s1.Dark.length c6, .slice A8 s1.Flat.length c9, .int .i64 s1.Full, .int .i64 s1.Gain, .int .i64 s1.Noise], .slice A12 q11.length c13, .int .i64 (q11.length : Int), .int .i64 vt29, .int .i64 vt29, .bool (vt29 != 0), undef, undef, undef, undef, undef, undef, undef, undef, undef, undef, undef, undef, undef, undef, undef, undef, undef, undef, undef, undef, undef, undef, undef, undef, undef, undef, undef, undef, undef, undef, undef, undef, undef, undef, undef, undef, undef, undef, undef, undef, undef, undef, undef, undef, undef, undef, undef, undef, undef, undef, undef, undef, undef, undef, undef, undef, undef, undef, undef, undef, undef], []⟩) (by kernel_rfl) ?_
  refine wpList_nil ?_
  refine hK36 _ _ ?_
  have hq_ := ite_some h; clear h; rcases hq_ with ⟨c38, h⟩ | ⟨c38, h⟩
  · have c38 : vt29 ≠ 0 := c38
    refine wpRwI 19 (x := (vt29 != 0)) (v := true) (by kernel_rfl) (bne_iff_ne.mpr c38) ?_
    refine condT (by kernel_rfl) ?_
    refine wp_seq_k (fun K39 hK40 => ?_)
    refine wp_region_lit ?_
    refine seqS4 (a' := ⟨#[.agg #[.int .i64 s1.W, .int .i64 s1.H, .slice A2 s1.Bias.length c3, .slice A5 s1.Dark.length c6, .slice A8 s1.Flat.length c9, .int .i64 s1.Full, .int .i64 s1.Gain, .int .i64 s1.Noise], .slice A12 q11.length c13, .pointer (some ⟨b17, 0, none⟩), .pointer (some ⟨b21, 0, none⟩), .slice none 0 0, .int .i64 0, .int .i64 vt29, .int .i64 vt29, undef, undef, undef, undef, undef, undef, .agg #[.int .i64 s1.W, .int .i64 s1.H, .slice A2 s1.Bias.length c3, .slice A5 s1.Dark.length c6, .slice A8 s1.Flat.length c9, .int .i64 s1.Full, .int .i64 s1.Gain, .int .i64 s1.Noise], .slice A12 q11.length c13, .int .i64 (q11.length : Int), .int .i64 vt29, .int .i64 vt29, .bool true, .int .i64 vt29, undef, undef, undef, undef, undef, undef, undef, undef, undef, undef, undef, undef, undef, undef, undef, undef, undef, undef, undef, undef, undef, undef, undef, undef, undef, undef, undef, undef, undef, undef, undef, undef, undef, undef, undef, undef, undef, undef, undef, undef, undef, undef, undef, undef, undef, undef, undef, undef, undef, undef, undef, undef, undef, undef, undef, undef, undef, undef, undef, undef], []⟩) (by kernel_rfl) ?_
    refine wpList_nil ?_
    refine hK40 _ _ ?_
    refine wp_ret ?_
    refine hret _ _ ?_
    have HS538 := HS34.cons_nil
    refine ends_still (v := Value.tuple #[.slice none 0 0, .int .i64 0, .int .i64 vt29]) (by kernel_rfl) (by kernel_rfl) ?_
    have HS540 := HS538.u2
    have HS541 := HS540.u2
    have HS542 := HS541.drop
    have HS543 := HS542.drop
    injection h with h
    injection h with h0_ h
    injection h with h1_ h
    subst h0_ h1_ h
    exact ⟨f31, none, 0, [], rfl, L32, HS543, (Own.nil _)⟩
  · have c38 : ¬ (vt29 ≠ 0) := c38
    refine wpRwI 19 (x := (vt29 != 0)) (v := false) (by kernel_rfl) (bne_eq_false_iff_eq.mpr (Decidable.of_not_not c38)) ?_
    refine condF (by kernel_rfl) ?_
    refine wp_skip ?_
    refine hK26 _ _ ?_
    refine wp_seq_k (fun K41 hK42 => ?_)
    refine wp_seq_k (fun K43 hK44 => ?_)
    refine wp_region_lit ?_
    refine seqK rfl (does_run (run_load rfl Try.underlying48 rfl (by kernel_rfl : _ = Value.pointer (some ⟨b21, 0, none⟩)) (HS34.cell 0)) ?_)
    have hq_ := bind_some h; clear h; obtain ⟨vt45, hc46, h⟩ := hq_
    refine seqK rfl (does_call (f := 45) (args := #[.slice A12 q11.length c13, .int .i64 4294967296]) (by kernel_rfl) (sensor_outside_Quanta.calls k A12 c13 q11 4294967296 HS34 (HR14.mono L32) vt45 hc46) ?_)
    rintro _ W49 ⟨f47, rfl, L48, HS50⟩
    refine ⟨_, rfl, ?_⟩
    refine wpList_nil ?_
    refine hK44 _ _ ?_
    have hq_ := ite_some h; clear h; rcases hq_ with ⟨c52, h⟩ | ⟨c52, h⟩
    · have c52 : vt45 = true := c52
      refine wpRwI 22 (x := vt45) (v := true) (by kernel_rfl) c52 ?_
      refine condT (by kernel_rfl) ?_
      refine wp_seq_k (fun K53 hK54 => ?_)
      refine wp_region_lit ?_
      refine seqS3 (a' := ⟨#[.agg #[.int .i64 s1.W, .int .i64 s1.H, .slice A2 s1.Bias.length c3, .slice A5 s1.Dark.length c6, .slice A8 s1.Flat.length c9, .int .i64 s1.Full, .int .i64 s1.Gain, .int .i64 s1.Noise], .slice A12 q11.length c13, .pointer (some ⟨b17, 0, none⟩), .pointer (some ⟨b21, 0, none⟩), .slice none 0 0, .int .i64 0, .int .i64 4, .int .i64 vt29, undef, undef, undef, undef, undef, undef, .agg #[.int .i64 s1.W, .int .i64 s1.H, .slice A2 s1.Bias.length c3, .slice A5 s1.Dark.length c6, .slice A8 s1.Flat.length c9, .int .i64 s1.Full, .int .i64 s1.Gain, .int .i64 s1.Noise], .slice A12 q11.length c13, .int .i64 (q11.length : Int), .int .i64 vt29, .int .i64 vt29, .bool false, undef, .slice A12 q11.length c13, .bool true, undef, undef, undef, undef, undef, undef, undef, undef, undef, undef, undef, undef, undef, undef, undef, undef, undef, undef, undef, undef, undef, undef, undef, undef, undef, undef, undef, undef, undef, undef, undef, undef, undef, undef, undef, undef, undef, undef, undef, undef, undef, undef, undef, undef, undef, undef, undef, undef, undef, undef, undef, undef, undef, undef, undef, undef, undef, undef], []⟩) (by kernel_rfl) ?_
      refine wpList_nil ?_
      refine hK54 _ _ ?_
      refine wp_ret ?_
      refine hret _ _ ?_
      have HS544 := HS50.cons_nil
      refine ends_still (v := Value.tuple #[.slice none 0 0, .int .i64 0, .int .i64 4]) (by kernel_rfl) (by kernel_rfl) ?_
      have HS546 := HS544.u2
      have HS547 := HS546.u2
      have HS548 := HS547.drop
      have HS549 := HS548.drop
      injection h with h
      injection h with h0_ h
      injection h with h1_ h
      subst h0_ h1_ h
      exact ⟨f47, none, 0, [], rfl, (L32.trans L48), HS549, (Own.nil _)⟩
    · have c52 : ¬ (vt45 = true) := c52
      refine wpRwI 22 (x := vt45) (v := false) (by kernel_rfl) (Bool.eq_false_iff.mpr c52) ?_
      refine condF (by kernel_rfl) ?_
      refine wp_skip ?_
      refine hK42 _ _ ?_
      refine wp_seq_k (fun K55 hK56 => ?_)
      refine wp_region_lit ?_
      refine seqK rfl (does_run (run_load rfl Try.underlying48 rfl (by kernel_rfl : _ = Value.pointer (some ⟨b21, 0, none⟩)) (HS50.cell 0)) ?_)
      have hq_ := guard_some h; clear h; obtain ⟨c57, h⟩ := hq_
      have c57 : 0 ≤ (q11.length : Int) := c57
      have hq_ := guard_some h; clear h; obtain ⟨c58, h⟩ := hq_
      have c58 : (q11.length : Int) * 8 ≤ 140737488355328 := c58
      refine seqL1 (by kernel_rfl) ?_
      refine seqK rfl (does_make (e := (tInt .i64)) (E := 22) (u := 0) (n := (q11.length : Int)) rfl (by kernel_rfl : _ = Value.int .i64 (q11.length : Int)) (by kernel_rfl : _ = Value.int .i64 (q11.length : Int)) Try.underlying48 inf22 c57 c58 (by omega) rfl HS50 ?_)
      intro b59 W60 s61 HS62 HO63
      refine seqS1 (a' := ⟨#[.agg #[.int .i64 s1.W, .int .i64 s1.H, .slice A2 s1.Bias.length c3, .slice A5 s1.Dark.length c6, .slice A8 s1.Flat.length c9, .int .i64 s1.Full, .int .i64 s1.Gain, .int .i64 s1.Noise], .slice A12 q11.length c13, .pointer (some ⟨b17, 0, none⟩), .pointer (some ⟨b21, 0, none⟩), .slice (some ⟨b59, 0, none⟩) (List.replicate ((q11.length : Int)).toNat (0 : Int)).length ((q11.length : Int)).toNat, .int .i64 0, .int .i64 0, .int .i64 vt29, undef, undef, undef, undef, undef, undef, .agg #[.int .i64 s1.W, .int .i64 s1.H, .slice A2 s1.Bias.length c3, .slice A5 s1.Dark.length c6, .slice A8 s1.Flat.length c9, .int .i64 s1.Full, .int .i64 s1.Gain, .int .i64 s1.Noise], .slice A12 q11.length c13, .int .i64 (q11.length : Int), .int .i64 vt29, .int .i64 vt29, .bool false, undef, .slice A12 q11.length c13, .bool false, .slice A12 q11.length c13, .int .i64 (q11.length : Int), .slice (some ⟨b59, 0, none⟩) (List.replicate ((q11.length : Int)).toNat (0 : Int)).length ((q11.length : Int)).toNat, undef, undef, undef, undef, undef, undef, undef, undef, undef, undef, undef, undef, undef, undef, undef, undef, undef, undef, undef, undef, undef, undef, undef, undef, undef, undef, undef, undef, undef, undef, undef, undef, undef, undef, undef, undef, undef, undef, undef, undef, undef, undef, undef, undef, undef, undef, undef, undef, undef, undef, undef, undef, undef, undef, undef], []⟩) (by kernel_rfl) ?_
      refine wpList_nil ?_
      refine hK56 _ _ ?_
      refine wp_seq_k (fun K65 hK66 => ?_)
      refine wp_seq_k (fun K67 hK68 => ?_)
      refine wp_region_lit ?_
      refine seqK rfl (does_run (run_load rfl Try.underlying48 rfl (by kernel_rfl : _ = Value.pointer (some ⟨b21, 0, none⟩)) (HS62.u1.cell 0)) ?_)
      refine seqS2 (a' := ⟨#[.agg #[.int .i64 s1.W, .int .i64 s1.H, .slice A2 s1.Bias.length c3, .slice A5 s1.Dark.length c6, .slice A8 s1.Flat.length c9, .int .i64 s1.Full, .int .i64 s1.Gain, .int .i64 s1.Noise], .slice A12 q11.length c13, .pointer (some ⟨b17, 0, none⟩), .pointer (some ⟨b21, 0, none⟩), .slice (some ⟨b59, 0, none⟩) (List.replicate ((q11.length : Int)).toNat (0 : Int)).length ((q11.length : Int)).toNat, .int .i64 0, .int .i64 0, .int .i64 vt29, undef, undef, undef, undef, undef, undef, .agg #[.int .i64 s1.W, .int .i64 s1.H, .slice A2 s1.Bias.length c3, .slice A5 s1.Dark.length c6, .slice A8 s1.Flat.length c9, .int .i64 s1.Full, .int .i64 s1.Gain, .int .i64 s1.Noise], .slice A12 q11.length c13, .int .i64 (q11.length : Int), .int .i64 vt29, .int .i64 vt29, .bool false, undef, .slice A12 q11.length c13, .bool false, .slice A12 q11.length c13, .int .i64 (q11.length : Int), .slice (some ⟨b59, 0, none⟩) (List.replicate ((q11.length : Int)).toNat (0 : Int)).length ((q11.length : Int)).toNat, .slice A12 q11.length c13, .int .i64 (q11.length : Int), .int .i64 0, undef, undef, undef, undef, undef, undef, undef, undef, undef, undef, undef, undef, undef, undef, undef, undef, undef, undef, undef, undef, undef, undef, undef, undef, undef, undef, undef, undef, undef, undef, undef, undef, undef, undef, undef, undef, undef, undef, undef, undef, undef, undef, undef, undef, undef, undef, undef, undef, undef, undef, undef, undef], []⟩) (by kernel_rfl) ?_
      refine wpList_nil ?_
      refine hK68 _ _ ?_
      refine blockK (fun B69 hx70 hn71 hr72 ho73 hp74 => ?_)
      have hq_ := bind_some h; clear h; obtain ⟨o116, hv170, h⟩ := hq_
      have J171 : ∀ (f161 : FM) (s167 : Seg) (out166 : List Int) (j165 : Nat → Value) (W163 : World) (a_ : Act), FM.le f47 f161 → some (out166) = some o116 → St t W163 f161 (s167 :: [(b21, .cells #[.slice A12 q11.length c13] 48 (0, 0))] :: [(b17, .cells #[.int .i64 s1.W, .int .i64 s1.H, .slice A2 s1.Bias.length c3, .slice A5 s1.Dark.length c6, .slice A8 s1.Flat.length c9, .int .i64 s1.Full, .int .i64 s1.Gain, .int .i64 s1.Noise] 46 (0, 0))] :: H) → Own (tInt .i64) 22 f161 (some ⟨b59, 0, none⟩) ((q11.length : Int)).toNat s167 out166 → out166.length = (List.replicate ((q11.length : Int)).toNat (0 : Int)).length → a_ = ⟨#[.agg #[.int .i64 s1.W, .int .i64 s1.H, .slice A2 s1.Bias.length c3, .slice A5 s1.Dark.length c6, .slice A8 s1.Flat.length c9, .int .i64 s1.Full, .int .i64 s1.Gain, .int .i64 s1.Noise], .slice A12 q11.length c13, .pointer (some ⟨b17, 0, none⟩), .pointer (some ⟨b21, 0, none⟩), .slice (some ⟨b59, 0, none⟩) out166.length ((q11.length : Int)).toNat, .int .i64 0, .int .i64 0, .int .i64 vt29, (j165 0), (j165 1), undef, undef, undef, undef, .agg #[.int .i64 s1.W, .int .i64 s1.H, .slice A2 s1.Bias.length c3, .slice A5 s1.Dark.length c6, .slice A8 s1.Flat.length c9, .int .i64 s1.Full, .int .i64 s1.Gain, .int .i64 s1.Noise], .slice A12 q11.length c13, .int .i64 (q11.length : Int), .int .i64 vt29, .int .i64 vt29, .bool false, undef, .slice A12 q11.length c13, .bool false, .slice A12 q11.length c13, .int .i64 (q11.length : Int), .slice (some ⟨b59, 0, none⟩) (List.replicate ((q11.length : Int)).toNat (0 : Int)).length ((q11.length : Int)).toNat, .slice A12 q11.length c13, .int .i64 (q11.length : Int), (j165 2), (j165 3), (j165 4), (j165 5), (j165 6), (j165 7), (j165 8), (j165 9), (j165 10), (j165 11), (j165 12), (j165 13), (j165 14), undef, undef, undef, undef, undef, undef, undef, undef, undef, undef, undef, undef, undef, undef, undef, undef, undef, undef, undef, undef, undef, undef, undef, undef, undef, undef, undef, undef, undef, undef, undef, undef, undef, undef, undef, undef, undef, undef, undef, undef], []⟩ → K65 a_ W163 := by
        intro f161 s167 out166 j165 W163 a_ L162 hj172 HS164 HO168 HL169 hfr_; subst hfr_
        injection hj172 with hj172; subst hj172; try dsimp only at h
        refine hK66 _ _ ?_
        refine wp_seq_k (fun K173 hK174 => ?_)
        refine wp_region_lit ?_
        refine seqL1 (by kernel_rfl) ?_
        refine seqK rfl (does_alloc (z := Value.nilFunc) (cs := #[.nilFunc]) rfl (by kernel_rfl) rfl HS164 ?_)
        intro b175 W176 HS177
        refine seqK rfl (does_store (n := 1) (vs := [.func (.func 46) #[] #[.pointer (some ⟨b21, 0, none⟩), .pointer (some ⟨b17, 0, none⟩)]]) (cs' := #[.func (.func 46) #[] #[.pointer (some ⟨b21, 0, none⟩), .pointer (some ⟨b17, 0, none⟩)]]) rfl (by kernel_rfl) (by kernel_rfl : _ = Value.pointer (some ⟨b175, 0, none⟩)) (by kernel_rfl : _ = Value.func (.func 46) #[] #[.pointer (some ⟨b21, 0, none⟩), .pointer (some ⟨b17, 0, none⟩)]) rfl rfl (by intro u_ hu_; simp only [List.mem_cons, List.not_mem_nil, or_false] at hu_; subst hu_; rfl) HS177 (Nat.le_of_ble_eq_true rfl) (by kernel_rfl) ?_)
        intro W179 HS180
        refine wpList_nil ?_
        refine hK174 _ _ ?_
        refine wp_seq_k (fun K181 hK182 => ?_)
        refine wp_seq_k (fun K183 hK184 => ?_)
        refine wp_region_lit ?_
        refine seqL1 (by kernel_rfl) ?_
        refine seqK rfl (does_run (run_load rfl Try.underlying3 rfl (by kernel_rfl : _ = Value.pointer (some ⟨b17, 0, none⟩)) (HS180.u3.cell 0)) ?_)
        refine seqS1 (a' := ⟨#[.agg #[.int .i64 s1.W, .int .i64 s1.H, .slice A2 s1.Bias.length c3, .slice A5 s1.Dark.length c6, .slice A8 s1.Flat.length c9, .int .i64 s1.Full, .int .i64 s1.Gain, .int .i64 s1.Noise], .slice A12 q11.length c13, .pointer (some ⟨b17, 0, none⟩), .pointer (some ⟨b21, 0, none⟩), .slice (some ⟨b59, 0, none⟩) out166.length ((q11.length : Int)).toNat, .int .i64 0, .int .i64 0, .int .i64 vt29, (j165 0), (j165 1), .pointer (some ⟨b175, 0, none⟩), undef, undef, undef, .agg #[.int .i64 s1.W, .int .i64 s1.H, .slice A2 s1.Bias.length c3, .slice A5 s1.Dark.length c6, .slice A8 s1.Flat.length c9, .int .i64 s1.Full, .int .i64 s1.Gain, .int .i64 s1.Noise], .slice A12 q11.length c13, .int .i64 (q11.length : Int), .int .i64 vt29, .int .i64 vt29, .bool false, undef, .slice A12 q11.length c13, .bool false, .slice A12 q11.length c13, .int .i64 (q11.length : Int), .slice (some ⟨b59, 0, none⟩) (List.replicate ((q11.length : Int)).toNat (0 : Int)).length ((q11.length : Int)).toNat, .slice A12 q11.length c13, .int .i64 (q11.length : Int), (j165 2), (j165 3), (j165 4), (j165 5), (j165 6), (j165 7), (j165 8), (j165 9), (j165 10), (j165 11), (j165 12), (j165 13), (j165 14), .func (.func 46) #[] #[.pointer (some ⟨b21, 0, none⟩), .pointer (some ⟨b17, 0, none⟩)], .pointer (some ⟨b17, 0, none⟩), .int .i64 s1.W, .int .i64 0, undef, undef, undef, undef, undef, undef, undef, undef, undef, undef, undef, undef, undef, undef, undef, undef, undef, undef, undef, undef, undef, undef, undef, undef, undef, undef, undef, undef, undef, undef, undef, undef, undef, undef, undef, undef], []⟩) (by kernel_rfl) ?_
        refine wpList_nil ?_
        refine hK184 _ _ ?_
        refine blockK (fun B185 hx186 hn187 hr188 ho189 hp190 => ?_)
        have hq_ := bind_some h; clear h; obtain ⟨o352, hv527, h⟩ := hq_
        have J528 : ∀ (f517 : FM) (s523 : Seg) (out522 : List Int) (lost526 : Int) (j521 : Nat → Value) (W519 : World) (a_ : Act), FM.le f161 f517 → some ((out522, lost526)) = some o352 → St t W519 f517 ([(b175, .cells #[.func (.func 46) #[] #[.pointer (some ⟨b21, 0, none⟩), .pointer (some ⟨b17, 0, none⟩)]] 76 (0, 0))] :: s523 :: [(b21, .cells #[.slice A12 q11.length c13] 48 (0, 0))] :: [(b17, .cells #[.int .i64 s1.W, .int .i64 s1.H, .slice A2 s1.Bias.length c3, .slice A5 s1.Dark.length c6, .slice A8 s1.Flat.length c9, .int .i64 s1.Full, .int .i64 s1.Gain, .int .i64 s1.Noise] 46 (0, 0))] :: H) → Own (tInt .i64) 22 f517 (some ⟨b59, 0, none⟩) ((q11.length : Int)).toNat s523 out522 → out522.length = out166.length → a_ = ⟨#[.agg #[.int .i64 s1.W, .int .i64 s1.H, .slice A2 s1.Bias.length c3, .slice A5 s1.Dark.length c6, .slice A8 s1.Flat.length c9, .int .i64 s1.Full, .int .i64 s1.Gain, .int .i64 s1.Noise], .slice A12 q11.length c13, .pointer (some ⟨b17, 0, none⟩), .pointer (some ⟨b21, 0, none⟩), .slice (some ⟨b59, 0, none⟩) out522.length ((q11.length : Int)).toNat, .int .i64 lost526, .int .i64 0, .int .i64 vt29, (j165 0), (j165 1), .pointer (some ⟨b175, 0, none⟩), (j521 0), (j521 1), (j521 2), .agg #[.int .i64 s1.W, .int .i64 s1.H, .slice A2 s1.Bias.length c3, .slice A5 s1.Dark.length c6, .slice A8 s1.Flat.length c9, .int .i64 s1.Full, .int .i64 s1.Gain, .int .i64 s1.Noise], .slice A12 q11.length c13, .int .i64 (q11.length : Int), .int .i64 vt29, .int .i64 vt29, .bool false, undef, .slice A12 q11.length c13, .bool false, .slice A12 q11.length c13, .int .i64 (q11.length : Int), .slice (some ⟨b59, 0, none⟩) (List.replicate ((q11.length : Int)).toNat (0 : Int)).length ((q11.length : Int)).toNat, .slice A12 q11.length c13, .int .i64 (q11.length : Int), (j165 2), (j165 3), (j165 4), (j165 5), (j165 6), (j165 7), (j165 8), (j165 9), (j165 10), (j165 11), (j165 12), (j165 13), (j165 14), .func (.func 46) #[] #[.pointer (some ⟨b21, 0, none⟩), .pointer (some ⟨b17, 0, none⟩)], .pointer (some ⟨b17, 0, none⟩), .int .i64 s1.W, (j521 3), (j521 4), (j521 5), (j521 6), (j521 7), (j521 8), (j521 9), (j521 10), (j521 11), (j521 12), (j521 13), (j521 14), (j521 15), (j521 16), (j521 17), (j521 18), (j521 19), (j521 20), (j521 21), (j521 22), (j521 23), (j521 24), (j521 25), (j521 26), (j521 27), (j521 28), (j521 29), (j521 30), (j521 31), (j521 32), (j521 33), (j521 34), (j521 35), (j521 36), (j521 37), undef, undef], []⟩ → K181 a_ W519 := by
          intro f517 s523 out522 lost526 j521 W519 a_ L518 hj529 HS520 HO524 HL525 hfr_; subst hfr_
          injection hj529 with hj529; subst hj529; try dsimp only at h
          refine hK182 _ _ ?_
          refine wp_seq_k (fun K536 hK537 => ?_)
          refine wp_region_lit ?_
          refine seqS5 (a' := ⟨#[.agg #[.int .i64 s1.W, .int .i64 s1.H, .slice A2 s1.Bias.length c3, .slice A5 s1.Dark.length c6, .slice A8 s1.Flat.length c9, .int .i64 s1.Full, .int .i64 s1.Gain, .int .i64 s1.Noise], .slice A12 q11.length c13, .pointer (some ⟨b17, 0, none⟩), .pointer (some ⟨b21, 0, none⟩), .slice (some ⟨b59, 0, none⟩) out522.length ((q11.length : Int)).toNat, .int .i64 lost526, .int .i64 0, .int .i64 vt29, (j165 0), (j165 1), .pointer (some ⟨b175, 0, none⟩), (j521 0), (j521 1), (j521 2), .agg #[.int .i64 s1.W, .int .i64 s1.H, .slice A2 s1.Bias.length c3, .slice A5 s1.Dark.length c6, .slice A8 s1.Flat.length c9, .int .i64 s1.Full, .int .i64 s1.Gain, .int .i64 s1.Noise], .slice A12 q11.length c13, .int .i64 (q11.length : Int), .int .i64 vt29, .int .i64 vt29, .bool false, undef, .slice A12 q11.length c13, .bool false, .slice A12 q11.length c13, .int .i64 (q11.length : Int), .slice (some ⟨b59, 0, none⟩) (List.replicate ((q11.length : Int)).toNat (0 : Int)).length ((q11.length : Int)).toNat, .slice A12 q11.length c13, .int .i64 (q11.length : Int), (j165 2), (j165 3), (j165 4), (j165 5), (j165 6), (j165 7), (j165 8), (j165 9), (j165 10), (j165 11), (j165 12), (j165 13), (j165 14), .func (.func 46) #[] #[.pointer (some ⟨b21, 0, none⟩), .pointer (some ⟨b17, 0, none⟩)], .pointer (some ⟨b17, 0, none⟩), .int .i64 s1.W, (j521 3), (j521 4), (j521 5), (j521 6), (j521 7), (j521 8), (j521 9), (j521 10), (j521 11), (j521 12), (j521 13), (j521 14), (j521 15), (j521 16), (j521 17), (j521 18), (j521 19), (j521 20), (j521 21), (j521 22), (j521 23), (j521 24), (j521 25), (j521 26), (j521 27), (j521 28), (j521 29), (j521 30), (j521 31), (j521 32), (j521 33), (j521 34), (j521 35), (j521 36), (j521 37), .slice (some ⟨b59, 0, none⟩) out522.length ((q11.length : Int)).toNat, .int .i64 lost526], []⟩) (by kernel_rfl) ?_
          refine wpList_nil ?_
          refine hK537 _ _ ?_
          refine wp_ret ?_
          refine hret _ _ ?_
          refine ends_still (v := Value.tuple #[.slice (some ⟨b59, 0, none⟩) out522.length ((q11.length : Int)).toNat, .int .i64 lost526, .int .i64 0]) (by kernel_rfl) (by kernel_rfl) ?_
          have HS550 := HS520.u1
          have HS551 := HS550.u3
          have HS552 := HS551.u3
          have HS553 := HS552.u3
          have HS554 := HS553.drop
          have HS555 := HS554.drop
          have HS556 := HS555.drop
          injection h with h
          injection h with h0_ h
          injection h with h1_ h
          subst h0_ h1_ h
          exact ⟨f517, (some ⟨b59, 0, none⟩), (((q11.length : Int)).toNat), s523, rfl, (L32.trans (L48.trans (L162.trans L518))), HS556, HO524⟩
        clear h; have h := hv527; clear hv527
        refine loopK (fun n_ a_ w_ => ∃ (f356 : FM) (s362 : Seg) (out361 : List Int) (lost365 : Int) (x366 : Int) (j360 : Nat → Value), FM.le f161 f356 ∧ St t w_ f356 ([(b175, .cells #[.func (.func 46) #[] #[.pointer (some ⟨b21, 0, none⟩), .pointer (some ⟨b17, 0, none⟩)]] 76 (0, 0))] :: s362 :: [(b21, .cells #[.slice A12 q11.length c13] 48 (0, 0))] :: [(b17, .cells #[.int .i64 s1.W, .int .i64 s1.H, .slice A2 s1.Bias.length c3, .slice A5 s1.Dark.length c6, .slice A8 s1.Flat.length c9, .int .i64 s1.Full, .int .i64 s1.Gain, .int .i64 s1.Noise] 46 (0, 0))] :: H) ∧ Own (tInt .i64) 22 f356 (some ⟨b59, 0, none⟩) ((q11.length : Int)).toNat s362 out361 ∧ out361.length = out166.length ∧ sensor_Bleed.l1 k s1 q11 n_ out361 lost365 x366 = some o352 ∧ a_ = ⟨#[.agg #[.int .i64 s1.W, .int .i64 s1.H, .slice A2 s1.Bias.length c3, .slice A5 s1.Dark.length c6, .slice A8 s1.Flat.length c9, .int .i64 s1.Full, .int .i64 s1.Gain, .int .i64 s1.Noise], .slice A12 q11.length c13, .pointer (some ⟨b17, 0, none⟩), .pointer (some ⟨b21, 0, none⟩), .slice (some ⟨b59, 0, none⟩) out361.length ((q11.length : Int)).toNat, .int .i64 lost365, .int .i64 0, .int .i64 vt29, (j165 0), (j165 1), .pointer (some ⟨b175, 0, none⟩), (j360 0), (j360 1), (j360 2), .agg #[.int .i64 s1.W, .int .i64 s1.H, .slice A2 s1.Bias.length c3, .slice A5 s1.Dark.length c6, .slice A8 s1.Flat.length c9, .int .i64 s1.Full, .int .i64 s1.Gain, .int .i64 s1.Noise], .slice A12 q11.length c13, .int .i64 (q11.length : Int), .int .i64 vt29, .int .i64 vt29, .bool false, undef, .slice A12 q11.length c13, .bool false, .slice A12 q11.length c13, .int .i64 (q11.length : Int), .slice (some ⟨b59, 0, none⟩) (List.replicate ((q11.length : Int)).toNat (0 : Int)).length ((q11.length : Int)).toNat, .slice A12 q11.length c13, .int .i64 (q11.length : Int), (j165 2), (j165 3), (j165 4), (j165 5), (j165 6), (j165 7), (j165 8), (j165 9), (j165 10), (j165 11), (j165 12), (j165 13), (j165 14), .func (.func 46) #[] #[.pointer (some ⟨b21, 0, none⟩), .pointer (some ⟨b17, 0, none⟩)], .pointer (some ⟨b17, 0, none⟩), .int .i64 s1.W, .int .i64 x366, (j360 3), (j360 4), (j360 5), (j360 6), (j360 7), (j360 8), (j360 9), (j360 10), (j360 11), (j360 12), (j360 13), (j360 14), (j360 15), (j360 16), (j360 17), (j360 18), (j360 19), (j360 20), (j360 21), (j360 22), (j360 23), (j360 24), (j360 25), (j360 26), (j360 27), (j360 28), (j360 29), (j360 30), (j360 31), (j360 32), (j360 33), (j360 34), (j360 35), (j360 36), undef, undef], []⟩) k ⟨f161, s167, out166, 0, 0, (fun i_ => [undef, undef, undef, undef, undef, undef, undef, undef, undef, undef, undef, undef, undef, undef, undef, undef, undef, undef, undef, undef, undef, undef, undef, undef, undef, undef, undef, undef, undef, undef, undef, undef, undef, undef, undef, undef, undef].getD i_ undef), (FM.le.refl _), HS180, HO168, rfl, h, (by kernel_rfl)⟩ ?_
        clear h
        rintro n355 _ W358 ⟨f356, s362, out361, lost365, x366, j360, L357, HS359, HO363, HL364, h, rfl⟩ K353 hK354
        obtain _ | n355 := n355
        · exact nomatch h
        simp only [sensor_Bleed.l1] at h
        refine wp_seq_k (fun K367 hK368 => ?_)
        refine wp_region_lit ?_
        refine seqS1 (a' := ⟨#[.agg #[.int .i64 s1.W, .int .i64 s1.H, .slice A2 s1.Bias.length c3, .slice A5 s1.Dark.length c6, .slice A8 s1.Flat.length c9, .int .i64 s1.Full, .int .i64 s1.Gain, .int .i64 s1.Noise], .slice A12 q11.length c13, .pointer (some ⟨b17, 0, none⟩), .pointer (some ⟨b21, 0, none⟩), .slice (some ⟨b59, 0, none⟩) out361.length ((q11.length : Int)).toNat, .int .i64 lost365, .int .i64 0, .int .i64 vt29, (j165 0), (j165 1), .pointer (some ⟨b175, 0, none⟩), (j360 0), (j360 1), (j360 2), .agg #[.int .i64 s1.W, .int .i64 s1.H, .slice A2 s1.Bias.length c3, .slice A5 s1.Dark.length c6, .slice A8 s1.Flat.length c9, .int .i64 s1.Full, .int .i64 s1.Gain, .int .i64 s1.Noise], .slice A12 q11.length c13, .int .i64 (q11.length : Int), .int .i64 vt29, .int .i64 vt29, .bool false, undef, .slice A12 q11.length c13, .bool false, .slice A12 q11.length c13, .int .i64 (q11.length : Int), .slice (some ⟨b59, 0, none⟩) (List.replicate ((q11.length : Int)).toNat (0 : Int)).length ((q11.length : Int)).toNat, .slice A12 q11.length c13, .int .i64 (q11.length : Int), (j165 2), (j165 3), (j165 4), (j165 5), (j165 6), (j165 7), (j165 8), (j165 9), (j165 10), (j165 11), (j165 12), (j165 13), (j165 14), .func (.func 46) #[] #[.pointer (some ⟨b21, 0, none⟩), .pointer (some ⟨b17, 0, none⟩)], .pointer (some ⟨b17, 0, none⟩), .int .i64 s1.W, .int .i64 x366, .bool (decide (x366 < s1.W)), (j360 4), (j360 5), (j360 6), (j360 7), (j360 8), (j360 9), (j360 10), (j360 11), (j360 12), (j360 13), (j360 14), (j360 15), (j360 16), (j360 17), (j360 18), (j360 19), (j360 20), (j360 21), (j360 22), (j360 23), (j360 24), (j360 25), (j360 26), (j360 27), (j360 28), (j360 29), (j360 30), (j360 31), (j360 32), (j360 33), (j360 34), (j360 35), (j360 36), undef, undef], []⟩) (by kernel_rfl) ?_
        refine wpList_nil ?_
        refine hK368 _ _ ?_
        refine wp_seq_k (fun K369 hK370 => ?_)
        have hq_ := ite_some h; clear h; rcases hq_ with ⟨c372, h⟩ | ⟨c372, h⟩
        · have c372 : x366 < s1.W := c372
          refine wpRwI 45 (x := (decide (x366 < s1.W))) (v := true) (by kernel_rfl) (decide_eq_true c372) ?_
          refine condT (by kernel_rfl) ?_
          refine wp_skip ?_
          refine hK370 _ _ ?_
          refine wp_seq_k (fun K373 hK374 => ?_)
          refine blockK (fun B375 hx376 hn377 hr378 ho379 hp380 => ?_)
          refine wp_seq_k (fun K382 hK383 => ?_)
          refine wp_region_lit ?_
          refine seqS2 (a' := ⟨#[.agg #[.int .i64 s1.W, .int .i64 s1.H, .slice A2 s1.Bias.length c3, .slice A5 s1.Dark.length c6, .slice A8 s1.Flat.length c9, .int .i64 s1.Full, .int .i64 s1.Gain, .int .i64 s1.Noise], .slice A12 q11.length c13, .pointer (some ⟨b17, 0, none⟩), .pointer (some ⟨b21, 0, none⟩), .slice (some ⟨b59, 0, none⟩) out361.length ((q11.length : Int)).toNat, .int .i64 lost365, .int .i64 0, .int .i64 vt29, (j165 0), (j165 1), .pointer (some ⟨b175, 0, none⟩), .int .i64 x366, (j360 1), (j360 2), .agg #[.int .i64 s1.W, .int .i64 s1.H, .slice A2 s1.Bias.length c3, .slice A5 s1.Dark.length c6, .slice A8 s1.Flat.length c9, .int .i64 s1.Full, .int .i64 s1.Gain, .int .i64 s1.Noise], .slice A12 q11.length c13, .int .i64 (q11.length : Int), .int .i64 vt29, .int .i64 vt29, .bool false, undef, .slice A12 q11.length c13, .bool false, .slice A12 q11.length c13, .int .i64 (q11.length : Int), .slice (some ⟨b59, 0, none⟩) (List.replicate ((q11.length : Int)).toNat (0 : Int)).length ((q11.length : Int)).toNat, .slice A12 q11.length c13, .int .i64 (q11.length : Int), (j165 2), (j165 3), (j165 4), (j165 5), (j165 6), (j165 7), (j165 8), (j165 9), (j165 10), (j165 11), (j165 12), (j165 13), (j165 14), .func (.func 46) #[] #[.pointer (some ⟨b21, 0, none⟩), .pointer (some ⟨b17, 0, none⟩)], .pointer (some ⟨b17, 0, none⟩), .int .i64 s1.W, .int .i64 x366, .bool true, .int .i64 x366, (j360 5), (j360 6), (j360 7), (j360 8), (j360 9), (j360 10), (j360 11), (j360 12), (j360 13), (j360 14), (j360 15), (j360 16), (j360 17), (j360 18), (j360 19), (j360 20), (j360 21), (j360 22), (j360 23), (j360 24), (j360 25), (j360 26), (j360 27), (j360 28), (j360 29), (j360 30), (j360 31), (j360 32), (j360 33), (j360 34), (j360 35), (j360 36), undef, undef], []⟩) (by kernel_rfl) ?_
          refine wpList_nil ?_
          refine hK383 _ _ ?_
          refine wp_seq_k (fun K384 hK385 => ?_)
          refine wp_region_lit ?_
          refine seqS1 (a' := ⟨#[.agg #[.int .i64 s1.W, .int .i64 s1.H, .slice A2 s1.Bias.length c3, .slice A5 s1.Dark.length c6, .slice A8 s1.Flat.length c9, .int .i64 s1.Full, .int .i64 s1.Gain, .int .i64 s1.Noise], .slice A12 q11.length c13, .pointer (some ⟨b17, 0, none⟩), .pointer (some ⟨b21, 0, none⟩), .slice (some ⟨b59, 0, none⟩) out361.length ((q11.length : Int)).toNat, .int .i64 lost365, .int .i64 0, .int .i64 vt29, (j165 0), (j165 1), .pointer (some ⟨b175, 0, none⟩), .int .i64 x366, .slice none 0 0, (j360 2), .agg #[.int .i64 s1.W, .int .i64 s1.H, .slice A2 s1.Bias.length c3, .slice A5 s1.Dark.length c6, .slice A8 s1.Flat.length c9, .int .i64 s1.Full, .int .i64 s1.Gain, .int .i64 s1.Noise], .slice A12 q11.length c13, .int .i64 (q11.length : Int), .int .i64 vt29, .int .i64 vt29, .bool false, undef, .slice A12 q11.length c13, .bool false, .slice A12 q11.length c13, .int .i64 (q11.length : Int), .slice (some ⟨b59, 0, none⟩) (List.replicate ((q11.length : Int)).toNat (0 : Int)).length ((q11.length : Int)).toNat, .slice A12 q11.length c13, .int .i64 (q11.length : Int), (j165 2), (j165 3), (j165 4), (j165 5), (j165 6), (j165 7), (j165 8), (j165 9), (j165 10), (j165 11), (j165 12), (j165 13), (j165 14), .func (.func 46) #[] #[.pointer (some ⟨b21, 0, none⟩), .pointer (some ⟨b17, 0, none⟩)], .pointer (some ⟨b17, 0, none⟩), .int .i64 s1.W, .int .i64 x366, .bool true, .int .i64 x366, (j360 5), (j360 6), (j360 7), (j360 8), (j360 9), (j360 10), (j360 11), (j360 12), (j360 13), (j360 14), (j360 15), (j360 16), (j360 17), (j360 18), (j360 19), (j360 20), (j360 21), (j360 22), (j360 23), (j360 24), (j360 25), (j360 26), (j360 27), (j360 28), (j360 29), (j360 30), (j360 31), (j360 32), (j360 33), (j360 34), (j360 35), (j360 36), undef, undef], []⟩) (by kernel_rfl) ?_
          refine wpList_nil ?_
          refine hK385 _ _ ?_
          refine wp_seq_k (fun K386 hK387 => ?_)
          refine wp_seq_k (fun K388 hK389 => ?_)
          refine wp_region_lit ?_
          refine seqL1 (by kernel_rfl) ?_
          refine seqK rfl (does_run (run_load rfl Try.underlying3 rfl (by kernel_rfl : _ = Value.pointer (some ⟨b17, 1, none⟩)) (HS359.u3.cell 1)) ?_)
          refine seqS1 (a' := ⟨#[.agg #[.int .i64 s1.W, .int .i64 s1.H, .slice A2 s1.Bias.length c3, .slice A5 s1.Dark.length c6, .slice A8 s1.Flat.length c9, .int .i64 s1.Full, .int .i64 s1.Gain, .int .i64 s1.Noise], .slice A12 q11.length c13, .pointer (some ⟨b17, 0, none⟩), .pointer (some ⟨b21, 0, none⟩), .slice (some ⟨b59, 0, none⟩) out361.length ((q11.length : Int)).toNat, .int .i64 lost365, .int .i64 0, .int .i64 vt29, (j165 0), (j165 1), .pointer (some ⟨b175, 0, none⟩), .int .i64 x366, .slice none 0 0, (j360 2), .agg #[.int .i64 s1.W, .int .i64 s1.H, .slice A2 s1.Bias.length c3, .slice A5 s1.Dark.length c6, .slice A8 s1.Flat.length c9, .int .i64 s1.Full, .int .i64 s1.Gain, .int .i64 s1.Noise], .slice A12 q11.length c13, .int .i64 (q11.length : Int), .int .i64 vt29, .int .i64 vt29, .bool false, undef, .slice A12 q11.length c13, .bool false, .slice A12 q11.length c13, .int .i64 (q11.length : Int), .slice (some ⟨b59, 0, none⟩) (List.replicate ((q11.length : Int)).toNat (0 : Int)).length ((q11.length : Int)).toNat, .slice A12 q11.length c13, .int .i64 (q11.length : Int), (j165 2), (j165 3), (j165 4), (j165 5), (j165 6), (j165 7), (j165 8), (j165 9), (j165 10), (j165 11), (j165 12), (j165 13), (j165 14), .func (.func 46) #[] #[.pointer (some ⟨b21, 0, none⟩), .pointer (some ⟨b17, 0, none⟩)], .pointer (some ⟨b17, 0, none⟩), .int .i64 s1.W, .int .i64 x366, .bool true, .int .i64 x366, .pointer (some ⟨b17, 1, none⟩), .int .i64 s1.H, .int .i64 0, (j360 8), (j360 9), (j360 10), (j360 11), (j360 12), (j360 13), (j360 14), (j360 15), (j360 16), (j360 17), (j360 18), (j360 19), (j360 20), (j360 21), (j360 22), (j360 23), (j360 24), (j360 25), (j360 26), (j360 27), (j360 28), (j360 29), (j360 30), (j360 31), (j360 32), (j360 33), (j360 34), (j360 35), (j360 36), undef, undef], []⟩) (by kernel_rfl) ?_
          refine wpList_nil ?_
          refine hK389 _ _ ?_
          refine blockK (fun B390 hx391 hn392 hr393 ho394 hp395 => ?_)
          have hq_ := bind_some h; clear h; obtain ⟨o396, hv455, h⟩ := hq_
          have J456 : ∀ (f444 : FM) (A450 : Option Addr) (c451 : Nat) (s452 : Seg) (column449 : List Int) (j448 : Nat → Value) (W446 : World) (a_ : Act), FM.le f356 f444 → some (column449) = some o396 → St t W446 f444 (s452 :: [(b175, .cells #[.func (.func 46) #[] #[.pointer (some ⟨b21, 0, none⟩), .pointer (some ⟨b17, 0, none⟩)]] 76 (0, 0))] :: s362 :: [(b21, .cells #[.slice A12 q11.length c13] 48 (0, 0))] :: [(b17, .cells #[.int .i64 s1.W, .int .i64 s1.H, .slice A2 s1.Bias.length c3, .slice A5 s1.Dark.length c6, .slice A8 s1.Flat.length c9, .int .i64 s1.Full, .int .i64 s1.Gain, .int .i64 s1.Noise] 46 (0, 0))] :: H) → Own (tInt .i64) 3 f444 A450 c451 s452 column449 → a_ = ⟨#[.agg #[.int .i64 s1.W, .int .i64 s1.H, .slice A2 s1.Bias.length c3, .slice A5 s1.Dark.length c6, .slice A8 s1.Flat.length c9, .int .i64 s1.Full, .int .i64 s1.Gain, .int .i64 s1.Noise], .slice A12 q11.length c13, .pointer (some ⟨b17, 0, none⟩), .pointer (some ⟨b21, 0, none⟩), .slice (some ⟨b59, 0, none⟩) out361.length ((q11.length : Int)).toNat, .int .i64 lost365, .int .i64 0, .int .i64 vt29, (j165 0), (j165 1), .pointer (some ⟨b175, 0, none⟩), .int .i64 x366, .slice A450 column449.length c451, (j448 0), .agg #[.int .i64 s1.W, .int .i64 s1.H, .slice A2 s1.Bias.length c3, .slice A5 s1.Dark.length c6, .slice A8 s1.Flat.length c9, .int .i64 s1.Full, .int .i64 s1.Gain, .int .i64 s1.Noise], .slice A12 q11.length c13, .int .i64 (q11.length : Int), .int .i64 vt29, .int .i64 vt29, .bool false, undef, .slice A12 q11.length c13, .bool false, .slice A12 q11.length c13, .int .i64 (q11.length : Int), .slice (some ⟨b59, 0, none⟩) (List.replicate ((q11.length : Int)).toNat (0 : Int)).length ((q11.length : Int)).toNat, .slice A12 q11.length c13, .int .i64 (q11.length : Int), (j165 2), (j165 3), (j165 4), (j165 5), (j165 6), (j165 7), (j165 8), (j165 9), (j165 10), (j165 11), (j165 12), (j165 13), (j165 14), .func (.func 46) #[] #[.pointer (some ⟨b21, 0, none⟩), .pointer (some ⟨b17, 0, none⟩)], .pointer (some ⟨b17, 0, none⟩), .int .i64 s1.W, .int .i64 x366, .bool true, .int .i64 x366, .pointer (some ⟨b17, 1, none⟩), .int .i64 s1.H, (j448 1), (j448 2), (j448 3), (j448 4), (j448 5), (j448 6), (j448 7), (j448 8), (j448 9), (j448 10), (j448 11), (j448 12), (j448 13), (j360 20), (j360 21), (j360 22), (j360 23), (j360 24), (j360 25), (j360 26), (j360 27), (j360 28), (j360 29), (j360 30), (j360 31), (j360 32), (j360 33), (j360 34), (j360 35), (j360 36), undef, undef], []⟩ → K386 a_ W446 := by
            intro f444 A450 c451 s452 column449 j448 W446 a_ L445 hj457 HS447 HO453 hfr_; subst hfr_
            injection hj457 with hj457; subst hj457; try dsimp only at h
            refine hK387 _ _ ?_
            refine wp_seq_k (fun K460 hK461 => ?_)
            refine wp_region_lit ?_
            refine seqL1 (by kernel_rfl) ?_
            refine seqK rfl (does_run (run_loadN (n := 8) rfl Try.underlying46 rfl (by kernel_rfl) (by kernel_rfl : _ = Value.pointer (some ⟨b17, 0, none⟩)) (cs := [.int .i64 s1.W, .int .i64 s1.H, .slice A2 s1.Bias.length c3, .slice A5 s1.Dark.length c6, .slice A8 s1.Flat.length c9, .int .i64 s1.Full, .int .i64 s1.Gain, .int .i64 s1.Noise]) rfl (HS447.u4.cells 0 8 _ rfl)) ?_)
            obtain ⟨f462, L463, HS464, HR465, th466⟩ := HO453.lend HS447
            have HS467 := HS464.u1
            have HS468 := HS467.u3
            have HS469 := HS468.u3
            have HS470 := HS469.u3
            have hq_ := bind_some h; clear h; obtain ⟨⟨vt471, vt472⟩, hc473, h⟩ := hq_
            refine seqL3 (by kernel_rfl) ?_
            refine seqK rfl (does_call (f := 47) (args := #[.agg #[.int .i64 s1.W, .int .i64 s1.H, .slice A2 s1.Bias.length c3, .slice A5 s1.Dark.length c6, .slice A8 s1.Flat.length c9, .int .i64 s1.Full, .int .i64 s1.Gain, .int .i64 s1.Noise], .slice (some ⟨b59, 0, none⟩) out361.length ((q11.length : Int)).toNat, .slice A450 column449.length c451, .func (.func 48) #[] #[.pointer (some ⟨b175, 0, none⟩)]]) (by kernel_rfl) (sensor_pour__sensor_Bleed_2.calls k b175 b21 A12 c13 b17 A2 c3 A5 c6 A8 c9 A2 c3 A5 c6 A8 c9 (some ⟨b59, 0, none⟩) (((q11.length : Int)).toNat) s362 A450 c451 q11 s1 s1 out361 column449 HS470 (HR14.mono (L32.trans (L48.trans (L162.trans (L357.trans (L445.trans L463)))))) (HR4.mono (L32.trans (L48.trans (L162.trans (L357.trans (L445.trans L463)))))) (HR7.mono (L32.trans (L48.trans (L162.trans (L357.trans (L445.trans L463)))))) (HR10.mono (L32.trans (L48.trans (L162.trans (L357.trans (L445.trans L463)))))) (HR4.mono (L32.trans (L48.trans (L162.trans (L357.trans (L445.trans L463)))))) (HR7.mono (L32.trans (L48.trans (L162.trans (L357.trans (L445.trans L463)))))) (HR10.mono (L32.trans (L48.trans (L162.trans (L357.trans (L445.trans L463)))))) (HO363.mono (L445.trans L463)) HR465 vt471 vt472 hc473) ?_)
            rintro _ W476 ⟨f474, s478, rfl, L475, HS477, HO479, HL480⟩
            refine ⟨_, rfl, ?_⟩
            obtain ⟨f481, L482, HS483⟩ := th466 L475 HS477
            replace HO479 := HO479.flat (g := f481) (fun _ _ _ _ h_ => h_)
            refine seqRwS 4 (A := (some ⟨b59, 0, none⟩)) (m := out361.length) (n := vt472.length) (c := ((q11.length : Int)).toNat) (by kernel_rfl) (HL480).symm ?_
            refine seqRwS 64 (A := (some ⟨b59, 0, none⟩)) (m := out361.length) (n := vt472.length) (c := ((q11.length : Int)).toNat) (by kernel_rfl) (HL480).symm ?_
            refine seqS2 (a' := ⟨#[.agg #[.int .i64 s1.W, .int .i64 s1.H, .slice A2 s1.Bias.length c3, .slice A5 s1.Dark.length c6, .slice A8 s1.Flat.length c9, .int .i64 s1.Full, .int .i64 s1.Gain, .int .i64 s1.Noise], .slice A12 q11.length c13, .pointer (some ⟨b17, 0, none⟩), .pointer (some ⟨b21, 0, none⟩), .slice (some ⟨b59, 0, none⟩) vt472.length ((q11.length : Int)).toNat, .int .i64 (w64 (lost365 + vt471)), .int .i64 0, .int .i64 vt29, (j165 0), (j165 1), .pointer (some ⟨b175, 0, none⟩), .int .i64 x366, .slice A450 column449.length c451, (j448 0), .agg #[.int .i64 s1.W, .int .i64 s1.H, .slice A2 s1.Bias.length c3, .slice A5 s1.Dark.length c6, .slice A8 s1.Flat.length c9, .int .i64 s1.Full, .int .i64 s1.Gain, .int .i64 s1.Noise], .slice A12 q11.length c13, .int .i64 (q11.length : Int), .int .i64 vt29, .int .i64 vt29, .bool false, undef, .slice A12 q11.length c13, .bool false, .slice A12 q11.length c13, .int .i64 (q11.length : Int), .slice (some ⟨b59, 0, none⟩) (List.replicate ((q11.length : Int)).toNat (0 : Int)).length ((q11.length : Int)).toNat, .slice A12 q11.length c13, .int .i64 (q11.length : Int), (j165 2), (j165 3), (j165 4), (j165 5), (j165 6), (j165 7), (j165 8), (j165 9), (j165 10), (j165 11), (j165 12), (j165 13), (j165 14), .func (.func 46) #[] #[.pointer (some ⟨b21, 0, none⟩), .pointer (some ⟨b17, 0, none⟩)], .pointer (some ⟨b17, 0, none⟩), .int .i64 s1.W, .int .i64 x366, .bool true, .int .i64 x366, .pointer (some ⟨b17, 1, none⟩), .int .i64 s1.H, (j448 1), (j448 2), (j448 3), (j448 4), (j448 5), (j448 6), (j448 7), (j448 8), (j448 9), (j448 10), (j448 11), (j448 12), (j448 13), .int .i64 lost365, .agg #[.int .i64 s1.W, .int .i64 s1.H, .slice A2 s1.Bias.length c3, .slice A5 s1.Dark.length c6, .slice A8 s1.Flat.length c9, .int .i64 s1.Full, .int .i64 s1.Gain, .int .i64 s1.Noise], .slice (some ⟨b59, 0, none⟩) vt472.length ((q11.length : Int)).toNat, .slice A450 column449.length c451, .func (.func 48) #[] #[.pointer (some ⟨b175, 0, none⟩)], .int .i64 vt471, .int .i64 (w64 (lost365 + vt471)), (j360 27), (j360 28), (j360 29), (j360 30), (j360 31), (j360 32), (j360 33), (j360 34), (j360 35), (j360 36), undef, undef], []⟩) (by kernel_rfl) ?_
            refine wpList_nil ?_
            refine hK461 _ _ ?_
            refine wp_seq_k (fun K484 hK485 => ?_)
            refine wp_region_lit ?_
            have hq_ := bind_some h; clear h; obtain ⟨vt486, hc487, h⟩ := hq_
            refine seqL1 (by kernel_rfl) ?_
            refine seqK rfl (does_call (f := 49) (args := #[.slice A450 column449.length c451]) (by kernel_rfl) (slices_Reverse_int.calls k A450 c451 s452 column449 HS483 (HO453.mono L482) vt486 hc487) ?_)
            rintro _ W490 ⟨f488, s492, rfl, L489, HS491, HO493, HL494⟩
            refine ⟨_, rfl, ?_⟩
            refine seqRwS 12 (A := A450) (m := column449.length) (n := vt486.length) (c := c451) (by kernel_rfl) (HL494).symm ?_
            refine seqRwS 65 (A := A450) (m := column449.length) (n := vt486.length) (c := c451) (by kernel_rfl) (HL494).symm ?_
            refine seqRwS 69 (A := A450) (m := column449.length) (n := vt486.length) (c := c451) (by kernel_rfl) (HL494).symm ?_
            refine wpList_nil ?_
            refine hK485 _ _ ?_
            refine wp_region_lit ?_
            refine seqL1 (by kernel_rfl) ?_
            refine seqK rfl (does_run (run_loadN (n := 8) rfl Try.underlying46 rfl (by kernel_rfl) (by kernel_rfl : _ = Value.pointer (some ⟨b17, 0, none⟩)) (cs := [.int .i64 s1.W, .int .i64 s1.H, .slice A2 s1.Bias.length c3, .slice A5 s1.Dark.length c6, .slice A8 s1.Flat.length c9, .int .i64 s1.Full, .int .i64 s1.Gain, .int .i64 s1.Noise]) rfl (HS491.u3.cells 0 8 _ rfl)) ?_)
            obtain ⟨f495, L496, HS497, HR498, th499⟩ := HO493.lend HS491
            have HS500 := HS497.u3
            have HS501 := HS500.u3
            have HS502 := HS501.u3
            have HS503 := HS502.u3
            have hq_ := bind_some h; clear h; obtain ⟨⟨vt504, vt505⟩, hc506, h⟩ := hq_
            refine seqL3 (by kernel_rfl) ?_
            refine seqK rfl (does_call (f := 47) (args := #[.agg #[.int .i64 s1.W, .int .i64 s1.H, .slice A2 s1.Bias.length c3, .slice A5 s1.Dark.length c6, .slice A8 s1.Flat.length c9, .int .i64 s1.Full, .int .i64 s1.Gain, .int .i64 s1.Noise], .slice (some ⟨b59, 0, none⟩) vt472.length ((q11.length : Int)).toNat, .slice A450 vt486.length c451, .func (.func 50) #[] #[.pointer (some ⟨b175, 0, none⟩)]]) (by kernel_rfl) (sensor_pour__sensor_Bleed_3.calls k b175 b21 A12 c13 b17 A2 c3 A5 c6 A8 c9 A2 c3 A5 c6 A8 c9 (some ⟨b59, 0, none⟩) (((q11.length : Int)).toNat) s478 A450 c451 q11 s1 s1 vt472 vt486 HS503 (HR14.mono (L32.trans (L48.trans (L162.trans (L357.trans (L445.trans (L482.trans (L489.trans L496)))))))) (HR4.mono (L32.trans (L48.trans (L162.trans (L357.trans (L445.trans (L482.trans (L489.trans L496)))))))) (HR7.mono (L32.trans (L48.trans (L162.trans (L357.trans (L445.trans (L482.trans (L489.trans L496)))))))) (HR10.mono (L32.trans (L48.trans (L162.trans (L357.trans (L445.trans (L482.trans (L489.trans L496)))))))) (HR4.mono (L32.trans (L48.trans (L162.trans (L357.trans (L445.trans (L482.trans (L489.trans L496)))))))) (HR7.mono (L32.trans (L48.trans (L162.trans (L357.trans (L445.trans (L482.trans (L489.trans L496)))))))) (HR10.mono (L32.trans (L48.trans (L162.trans (L357.trans (L445.trans (L482.trans (L489.trans L496)))))))) (HO479.mono (L489.trans L496)) HR498 vt504 vt505 hc506) ?_)
            rintro _ W509 ⟨f507, s511, rfl, L508, HS510, HO512, HL513⟩
            refine ⟨_, rfl, ?_⟩
            obtain ⟨f514, L515, HS516⟩ := th499 L508 HS510
            replace HO512 := HO512.flat (g := f514) (fun _ _ _ _ h_ => h_)
            refine seqRwS 4 (A := (some ⟨b59, 0, none⟩)) (m := vt472.length) (n := vt505.length) (c := ((q11.length : Int)).toNat) (by kernel_rfl) (HL513).symm ?_
            refine seqRwS 64 (A := (some ⟨b59, 0, none⟩)) (m := vt472.length) (n := vt505.length) (c := ((q11.length : Int)).toNat) (by kernel_rfl) (HL513).symm ?_
            refine seqRwS 73 (A := (some ⟨b59, 0, none⟩)) (m := vt472.length) (n := vt505.length) (c := ((q11.length : Int)).toNat) (by kernel_rfl) (HL513).symm ?_
            refine seqS2 (a' := ⟨#[.agg #[.int .i64 s1.W, .int .i64 s1.H, .slice A2 s1.Bias.length c3, .slice A5 s1.Dark.length c6, .slice A8 s1.Flat.length c9, .int .i64 s1.Full, .int .i64 s1.Gain, .int .i64 s1.Noise], .slice A12 q11.length c13, .pointer (some ⟨b17, 0, none⟩), .pointer (some ⟨b21, 0, none⟩), .slice (some ⟨b59, 0, none⟩) vt505.length ((q11.length : Int)).toNat, .int .i64 (w64 ((w64 (lost365 + vt471)) + vt504)), .int .i64 0, .int .i64 vt29, (j165 0), (j165 1), .pointer (some ⟨b175, 0, none⟩), .int .i64 x366, .slice A450 vt486.length c451, (j448 0), .agg #[.int .i64 s1.W, .int .i64 s1.H, .slice A2 s1.Bias.length c3, .slice A5 s1.Dark.length c6, .slice A8 s1.Flat.length c9, .int .i64 s1.Full, .int .i64 s1.Gain, .int .i64 s1.Noise], .slice A12 q11.length c13, .int .i64 (q11.length : Int), .int .i64 vt29, .int .i64 vt29, .bool false, undef, .slice A12 q11.length c13, .bool false, .slice A12 q11.length c13, .int .i64 (q11.length : Int), .slice (some ⟨b59, 0, none⟩) (List.replicate ((q11.length : Int)).toNat (0 : Int)).length ((q11.length : Int)).toNat, .slice A12 q11.length c13, .int .i64 (q11.length : Int), (j165 2), (j165 3), (j165 4), (j165 5), (j165 6), (j165 7), (j165 8), (j165 9), (j165 10), (j165 11), (j165 12), (j165 13), (j165 14), .func (.func 46) #[] #[.pointer (some ⟨b21, 0, none⟩), .pointer (some ⟨b17, 0, none⟩)], .pointer (some ⟨b17, 0, none⟩), .int .i64 s1.W, .int .i64 x366, .bool true, .int .i64 x366, .pointer (some ⟨b17, 1, none⟩), .int .i64 s1.H, (j448 1), (j448 2), (j448 3), (j448 4), (j448 5), (j448 6), (j448 7), (j448 8), (j448 9), (j448 10), (j448 11), (j448 12), (j448 13), .int .i64 lost365, .agg #[.int .i64 s1.W, .int .i64 s1.H, .slice A2 s1.Bias.length c3, .slice A5 s1.Dark.length c6, .slice A8 s1.Flat.length c9, .int .i64 s1.Full, .int .i64 s1.Gain, .int .i64 s1.Noise], .slice (some ⟨b59, 0, none⟩) vt505.length ((q11.length : Int)).toNat, .slice A450 vt486.length c451, .func (.func 48) #[] #[.pointer (some ⟨b175, 0, none⟩)], .int .i64 vt471, .int .i64 (w64 (lost365 + vt471)), .slice A450 vt486.length c451, .tuple #[], .int .i64 (w64 (lost365 + vt471)), .agg #[.int .i64 s1.W, .int .i64 s1.H, .slice A2 s1.Bias.length c3, .slice A5 s1.Dark.length c6, .slice A8 s1.Flat.length c9, .int .i64 s1.Full, .int .i64 s1.Gain, .int .i64 s1.Noise], .slice (some ⟨b59, 0, none⟩) vt505.length ((q11.length : Int)).toNat, .slice A450 vt486.length c451, .func (.func 50) #[] #[.pointer (some ⟨b175, 0, none⟩)], .int .i64 vt504, .int .i64 (w64 ((w64 (lost365 + vt471)) + vt504)), (j360 36), undef, undef], []⟩) (by kernel_rfl) ?_
            refine wpList_nil ?_
            refine hn377 _ _ ?_
            refine hK374 _ _ ?_
            refine wp_region_lit ?_
            refine seqS2 (a' := ⟨#[.agg #[.int .i64 s1.W, .int .i64 s1.H, .slice A2 s1.Bias.length c3, .slice A5 s1.Dark.length c6, .slice A8 s1.Flat.length c9, .int .i64 s1.Full, .int .i64 s1.Gain, .int .i64 s1.Noise], .slice A12 q11.length c13, .pointer (some ⟨b17, 0, none⟩), .pointer (some ⟨b21, 0, none⟩), .slice (some ⟨b59, 0, none⟩) vt505.length ((q11.length : Int)).toNat, .int .i64 (w64 ((w64 (lost365 + vt471)) + vt504)), .int .i64 0, .int .i64 vt29, (j165 0), (j165 1), .pointer (some ⟨b175, 0, none⟩), .int .i64 x366, .slice A450 vt486.length c451, (j448 0), .agg #[.int .i64 s1.W, .int .i64 s1.H, .slice A2 s1.Bias.length c3, .slice A5 s1.Dark.length c6, .slice A8 s1.Flat.length c9, .int .i64 s1.Full, .int .i64 s1.Gain, .int .i64 s1.Noise], .slice A12 q11.length c13, .int .i64 (q11.length : Int), .int .i64 vt29, .int .i64 vt29, .bool false, undef, .slice A12 q11.length c13, .bool false, .slice A12 q11.length c13, .int .i64 (q11.length : Int), .slice (some ⟨b59, 0, none⟩) (List.replicate ((q11.length : Int)).toNat (0 : Int)).length ((q11.length : Int)).toNat, .slice A12 q11.length c13, .int .i64 (q11.length : Int), (j165 2), (j165 3), (j165 4), (j165 5), (j165 6), (j165 7), (j165 8), (j165 9), (j165 10), (j165 11), (j165 12), (j165 13), (j165 14), .func (.func 46) #[] #[.pointer (some ⟨b21, 0, none⟩), .pointer (some ⟨b17, 0, none⟩)], .pointer (some ⟨b17, 0, none⟩), .int .i64 s1.W, .int .i64 (w64 (x366 + 1)), .bool true, .int .i64 x366, .pointer (some ⟨b17, 1, none⟩), .int .i64 s1.H, (j448 1), (j448 2), (j448 3), (j448 4), (j448 5), (j448 6), (j448 7), (j448 8), (j448 9), (j448 10), (j448 11), (j448 12), (j448 13), .int .i64 lost365, .agg #[.int .i64 s1.W, .int .i64 s1.H, .slice A2 s1.Bias.length c3, .slice A5 s1.Dark.length c6, .slice A8 s1.Flat.length c9, .int .i64 s1.Full, .int .i64 s1.Gain, .int .i64 s1.Noise], .slice (some ⟨b59, 0, none⟩) vt505.length ((q11.length : Int)).toNat, .slice A450 vt486.length c451, .func (.func 48) #[] #[.pointer (some ⟨b175, 0, none⟩)], .int .i64 vt471, .int .i64 (w64 (lost365 + vt471)), .slice A450 vt486.length c451, .tuple #[], .int .i64 (w64 (lost365 + vt471)), .agg #[.int .i64 s1.W, .int .i64 s1.H, .slice A2 s1.Bias.length c3, .slice A5 s1.Dark.length c6, .slice A8 s1.Flat.length c9, .int .i64 s1.Full, .int .i64 s1.Gain, .int .i64 s1.Noise], .slice (some ⟨b59, 0, none⟩) vt505.length ((q11.length : Int)).toNat, .slice A450 vt486.length c451, .func (.func 50) #[] #[.pointer (some ⟨b175, 0, none⟩)], .int .i64 vt504, .int .i64 (w64 ((w64 (lost365 + vt471)) + vt504)), .int .i64 (w64 (x366 + 1)), undef, undef], []⟩) (by kernel_rfl) ?_
            refine wpList_nil ?_
            refine hK354 n355 _ _ (Nat.lt_succ_self _) ?_
            have HS530 := HS516.u3
            have HS531 := HS530.u3
            have HS532 := HS531.u4
            have HS533 := HS532.u4
            have HS534 := HS533.u4
            have HS535 := HS534.drop
            exact ⟨f514, s511, vt505, (w64 ((w64 (lost365 + vt471)) + vt504)), (w64 (x366 + 1)), (fun i_ => [Value.int .i64 x366, Value.slice A450 vt486.length c451, (j448 0), Value.bool true, Value.int .i64 x366, Value.pointer (some ⟨b17, 1, none⟩), Value.int .i64 s1.H, (j448 1), (j448 2), (j448 3), (j448 4), (j448 5), (j448 6), (j448 7), (j448 8), (j448 9), (j448 10), (j448 11), (j448 12), (j448 13), Value.int .i64 lost365, Value.agg #[.int .i64 s1.W, .int .i64 s1.H, .slice A2 s1.Bias.length c3, .slice A5 s1.Dark.length c6, .slice A8 s1.Flat.length c9, .int .i64 s1.Full, .int .i64 s1.Gain, .int .i64 s1.Noise], Value.slice (some ⟨b59, 0, none⟩) vt505.length ((q11.length : Int)).toNat, Value.slice A450 vt486.length c451, Value.func (.func 48) #[] #[.pointer (some ⟨b175, 0, none⟩)], Value.int .i64 vt471, Value.int .i64 (w64 (lost365 + vt471)), Value.slice A450 vt486.length c451, Value.tuple #[], Value.int .i64 (w64 (lost365 + vt471)), Value.agg #[.int .i64 s1.W, .int .i64 s1.H, .slice A2 s1.Bias.length c3, .slice A5 s1.Dark.length c6, .slice A8 s1.Flat.length c9, .int .i64 s1.Full, .int .i64 s1.Gain, .int .i64 s1.Noise], Value.slice (some ⟨b59, 0, none⟩) vt505.length ((q11.length : Int)).toNat, Value.slice A450 vt486.length c451, Value.func (.func 50) #[] #[.pointer (some ⟨b175, 0, none⟩)], Value.int .i64 vt504, Value.int .i64 (w64 ((w64 (lost365 + vt471)) + vt504)), Value.int .i64 (w64 (x366 + 1))].getD i_ undef), (L357.trans (L445.trans (L482.trans (L489.trans L515)))), HS535, HO512, (HL513.trans (HL480.trans HL364)), h, (by kernel_rfl)⟩
          clear h; have h := hv455; clear hv455
          have HS458 := HS359.cons_nil
          refine loopK (fun n_ a_ w_ => ∃ (f400 : FM) (A406 : Option Addr) (c407 : Nat) (s408 : Seg) (column405 : List Int) (x411 : Int) (j404 : Nat → Value), FM.le f356 f400 ∧ St t w_ f400 (s408 :: [(b175, .cells #[.func (.func 46) #[] #[.pointer (some ⟨b21, 0, none⟩), .pointer (some ⟨b17, 0, none⟩)]] 76 (0, 0))] :: s362 :: [(b21, .cells #[.slice A12 q11.length c13] 48 (0, 0))] :: [(b17, .cells #[.int .i64 s1.W, .int .i64 s1.H, .slice A2 s1.Bias.length c3, .slice A5 s1.Dark.length c6, .slice A8 s1.Flat.length c9, .int .i64 s1.Full, .int .i64 s1.Gain, .int .i64 s1.Noise] 46 (0, 0))] :: H) ∧ Own (tInt .i64) 3 f400 A406 c407 s408 column405 ∧ sensor_Bleed.l2 k s1 x366 n_ column405 x411 = some o396 ∧ a_ = ⟨#[.agg #[.int .i64 s1.W, .int .i64 s1.H, .slice A2 s1.Bias.length c3, .slice A5 s1.Dark.length c6, .slice A8 s1.Flat.length c9, .int .i64 s1.Full, .int .i64 s1.Gain, .int .i64 s1.Noise], .slice A12 q11.length c13, .pointer (some ⟨b17, 0, none⟩), .pointer (some ⟨b21, 0, none⟩), .slice (some ⟨b59, 0, none⟩) out361.length ((q11.length : Int)).toNat, .int .i64 lost365, .int .i64 0, .int .i64 vt29, (j165 0), (j165 1), .pointer (some ⟨b175, 0, none⟩), .int .i64 x366, .slice A406 column405.length c407, (j404 0), .agg #[.int .i64 s1.W, .int .i64 s1.H, .slice A2 s1.Bias.length c3, .slice A5 s1.Dark.length c6, .slice A8 s1.Flat.length c9, .int .i64 s1.Full, .int .i64 s1.Gain, .int .i64 s1.Noise], .slice A12 q11.length c13, .int .i64 (q11.length : Int), .int .i64 vt29, .int .i64 vt29, .bool false, undef, .slice A12 q11.length c13, .bool false, .slice A12 q11.length c13, .int .i64 (q11.length : Int), .slice (some ⟨b59, 0, none⟩) (List.replicate ((q11.length : Int)).toNat (0 : Int)).length ((q11.length : Int)).toNat, .slice A12 q11.length c13, .int .i64 (q11.length : Int), (j165 2), (j165 3), (j165 4), (j165 5), (j165 6), (j165 7), (j165 8), (j165 9), (j165 10), (j165 11), (j165 12), (j165 13), (j165 14), .func (.func 46) #[] #[.pointer (some ⟨b21, 0, none⟩), .pointer (some ⟨b17, 0, none⟩)], .pointer (some ⟨b17, 0, none⟩), .int .i64 s1.W, .int .i64 x366, .bool true, .int .i64 x366, .pointer (some ⟨b17, 1, none⟩), .int .i64 s1.H, .int .i64 x411, (j404 1), (j404 2), (j404 3), (j404 4), (j404 5), (j404 6), (j404 7), (j404 8), (j404 9), (j404 10), (j404 11), (j404 12), (j360 20), (j360 21), (j360 22), (j360 23), (j360 24), (j360 25), (j360 26), (j360 27), (j360 28), (j360 29), (j360 30), (j360 31), (j360 32), (j360 33), (j360 34), (j360 35), (j360 36), undef, undef], []⟩) k ⟨f356, none, 0, [], ([] : List Int), 0, (fun i_ => [(j360 2), (j360 8), (j360 9), (j360 10), (j360 11), (j360 12), (j360 13), (j360 14), (j360 15), (j360 16), (j360 17), (j360 18), (j360 19)].getD i_ undef), (FM.le.refl _), HS458, (Own.nil _), h, (by kernel_rfl)⟩ ?_
          clear h
          rintro n399 _ W402 ⟨f400, A406, c407, s408, column405, x411, j404, L401, HS403, HO409, h, rfl⟩ K397 hK398
          obtain _ | n399 := n399
          · exact nomatch h
          simp only [sensor_Bleed.l2] at h
          refine wp_seq_k (fun K412 hK413 => ?_)
          refine wp_region_lit ?_
          refine seqS1 (a' := ⟨#[.agg #[.int .i64 s1.W, .int .i64 s1.H, .slice A2 s1.Bias.length c3, .slice A5 s1.Dark.length c6, .slice A8 s1.Flat.length c9, .int .i64 s1.Full, .int .i64 s1.Gain, .int .i64 s1.Noise], .slice A12 q11.length c13, .pointer (some ⟨b17, 0, none⟩), .pointer (some ⟨b21, 0, none⟩), .slice (some ⟨b59, 0, none⟩) out361.length ((q11.length : Int)).toNat, .int .i64 lost365, .int .i64 0, .int .i64 vt29, (j165 0), (j165 1), .pointer (some ⟨b175, 0, none⟩), .int .i64 x366, .slice A406 column405.length c407, (j404 0), .agg #[.int .i64 s1.W, .int .i64 s1.H, .slice A2 s1.Bias.length c3, .slice A5 s1.Dark.length c6, .slice A8 s1.Flat.length c9, .int .i64 s1.Full, .int .i64 s1.Gain, .int .i64 s1.Noise], .slice A12 q11.length c13, .int .i64 (q11.length : Int), .int .i64 vt29, .int .i64 vt29, .bool false, undef, .slice A12 q11.length c13, .bool false, .slice A12 q11.length c13, .int .i64 (q11.length : Int), .slice (some ⟨b59, 0, none⟩) (List.replicate ((q11.length : Int)).toNat (0 : Int)).length ((q11.length : Int)).toNat, .slice A12 q11.length c13, .int .i64 (q11.length : Int), (j165 2), (j165 3), (j165 4), (j165 5), (j165 6), (j165 7), (j165 8), (j165 9), (j165 10), (j165 11), (j165 12), (j165 13), (j165 14), .func (.func 46) #[] #[.pointer (some ⟨b21, 0, none⟩), .pointer (some ⟨b17, 0, none⟩)], .pointer (some ⟨b17, 0, none⟩), .int .i64 s1.W, .int .i64 x366, .bool true, .int .i64 x366, .pointer (some ⟨b17, 1, none⟩), .int .i64 s1.H, .int .i64 x411, .bool (decide (x411 < s1.H)), (j404 2), (j404 3), (j404 4), (j404 5), (j404 6), (j404 7), (j404 8), (j404 9), (j404 10), (j404 11), (j404 12), (j360 20), (j360 21), (j360 22), (j360 23), (j360 24), (j360 25), (j360 26), (j360 27), (j360 28), (j360 29), (j360 30), (j360 31), (j360 32), (j360 33), (j360 34), (j360 35), (j360 36), undef, undef], []⟩) (by kernel_rfl) ?_
          refine wpList_nil ?_
          refine hK413 _ _ ?_
          refine wp_seq_k (fun K414 hK415 => ?_)
          have hq_ := ite_some h; clear h; rcases hq_ with ⟨c417, h⟩ | ⟨c417, h⟩
          · have c417 : x411 < s1.H := c417
            refine wpRwI 50 (x := (decide (x411 < s1.H))) (v := true) (by kernel_rfl) (decide_eq_true c417) ?_
            refine condT (by kernel_rfl) ?_
            refine wp_skip ?_
            refine hK415 _ _ ?_
            refine wp_seq_k (fun K418 hK419 => ?_)
            refine blockK (fun B420 hx421 hn422 hr423 ho424 hp425 => ?_)
            refine wp_seq_k (fun K427 hK428 => ?_)
            refine wp_region_lit ?_
            refine seqS2 (a' := ⟨#[.agg #[.int .i64 s1.W, .int .i64 s1.H, .slice A2 s1.Bias.length c3, .slice A5 s1.Dark.length c6, .slice A8 s1.Flat.length c9, .int .i64 s1.Full, .int .i64 s1.Gain, .int .i64 s1.Noise], .slice A12 q11.length c13, .pointer (some ⟨b17, 0, none⟩), .pointer (some ⟨b21, 0, none⟩), .slice (some ⟨b59, 0, none⟩) out361.length ((q11.length : Int)).toNat, .int .i64 lost365, .int .i64 0, .int .i64 vt29, (j165 0), (j165 1), .pointer (some ⟨b175, 0, none⟩), .int .i64 x366, .slice A406 column405.length c407, .int .i64 x411, .agg #[.int .i64 s1.W, .int .i64 s1.H, .slice A2 s1.Bias.length c3, .slice A5 s1.Dark.length c6, .slice A8 s1.Flat.length c9, .int .i64 s1.Full, .int .i64 s1.Gain, .int .i64 s1.Noise], .slice A12 q11.length c13, .int .i64 (q11.length : Int), .int .i64 vt29, .int .i64 vt29, .bool false, undef, .slice A12 q11.length c13, .bool false, .slice A12 q11.length c13, .int .i64 (q11.length : Int), .slice (some ⟨b59, 0, none⟩) (List.replicate ((q11.length : Int)).toNat (0 : Int)).length ((q11.length : Int)).toNat, .slice A12 q11.length c13, .int .i64 (q11.length : Int), (j165 2), (j165 3), (j165 4), (j165 5), (j165 6), (j165 7), (j165 8), (j165 9), (j165 10), (j165 11), (j165 12), (j165 13), (j165 14), .func (.func 46) #[] #[.pointer (some ⟨b21, 0, none⟩), .pointer (some ⟨b17, 0, none⟩)], .pointer (some ⟨b17, 0, none⟩), .int .i64 s1.W, .int .i64 x366, .bool true, .int .i64 x366, .pointer (some ⟨b17, 1, none⟩), .int .i64 s1.H, .int .i64 x411, .bool true, .int .i64 x411, (j404 3), (j404 4), (j404 5), (j404 6), (j404 7), (j404 8), (j404 9), (j404 10), (j404 11), (j404 12), (j360 20), (j360 21), (j360 22), (j360 23), (j360 24), (j360 25), (j360 26), (j360 27), (j360 28), (j360 29), (j360 30), (j360 31), (j360 32), (j360 33), (j360 34), (j360 35), (j360 36), undef, undef], []⟩) (by kernel_rfl) ?_
            refine wpList_nil ?_
            refine hK428 _ _ ?_
            refine wp_region_lit ?_
            refine seqL3 (by kernel_rfl) ?_
            refine seqK rfl (does_run (run_load rfl Try.underlying3 rfl (by kernel_rfl : _ = Value.pointer (some ⟨b17, 0, none⟩)) (HS403.u4.cell 0)) ?_)
            refine seqL3 (by kernel_rfl) ?_
            refine seqK rfl (does_lit (e := (tInt .i64)) (E := 3) (vs := #[(0, Value.int .i64 (w64 ((w64 (x411 * s1.W)) + x366)))]) (cs := #[.int .i64 (w64 ((w64 (x411 * s1.W)) + x366))]) (xs := ([w64 ((w64 (x411 * s1.W)) + x366)] : List Int)) rfl Try.underlying40 (by kernel_rfl) (by kernel_rfl) ⟨[.int .i64 (w64 ((w64 (x411 * s1.W)) + x366))], _, rfl, rfl, rfl⟩ rfl HS403 ?_ (by decide))
            intro b429 W430 s431 HS432 _ HO433
            have hq_ := guard_some h; clear h; obtain ⟨c435, h⟩ := hq_
            have c435 : (column405.length + 1) * 8 ≤ 140737488355328 := c435
            have HS436 := HS432.u1
            have HS437 := HS436.u1
            refine seqK rfl (does_append1 (e := (tInt .i64)) (E := 3) (xs := column405) (ys := ([w64 ((w64 (x411 * s1.W)) + x366)] : List Int)) rfl (by kernel_rfl : _ = Value.slice A406 column405.length c407) (by kernel_rfl : _ = Value.slice (some ⟨b429, 0, none⟩) ([w64 ((w64 (x411 * s1.W)) + x366)] : List Int).length 1) Try.underlying40 inf3 HO409 HO433 HS437 c435 (lim63 c435 (by decide)) ?_)
            intro A438 c439 s440 W441 HS442 HO443
            refine seqS1 (a' := ⟨#[.agg #[.int .i64 s1.W, .int .i64 s1.H, .slice A2 s1.Bias.length c3, .slice A5 s1.Dark.length c6, .slice A8 s1.Flat.length c9, .int .i64 s1.Full, .int .i64 s1.Gain, .int .i64 s1.Noise], .slice A12 q11.length c13, .pointer (some ⟨b17, 0, none⟩), .pointer (some ⟨b21, 0, none⟩), .slice (some ⟨b59, 0, none⟩) out361.length ((q11.length : Int)).toNat, .int .i64 lost365, .int .i64 0, .int .i64 vt29, (j165 0), (j165 1), .pointer (some ⟨b175, 0, none⟩), .int .i64 x366, .slice A438 (column405 ++ ([w64 ((w64 (x411 * s1.W)) + x366)] : List Int)).length c439, .int .i64 x411, .agg #[.int .i64 s1.W, .int .i64 s1.H, .slice A2 s1.Bias.length c3, .slice A5 s1.Dark.length c6, .slice A8 s1.Flat.length c9, .int .i64 s1.Full, .int .i64 s1.Gain, .int .i64 s1.Noise], .slice A12 q11.length c13, .int .i64 (q11.length : Int), .int .i64 vt29, .int .i64 vt29, .bool false, undef, .slice A12 q11.length c13, .bool false, .slice A12 q11.length c13, .int .i64 (q11.length : Int), .slice (some ⟨b59, 0, none⟩) (List.replicate ((q11.length : Int)).toNat (0 : Int)).length ((q11.length : Int)).toNat, .slice A12 q11.length c13, .int .i64 (q11.length : Int), (j165 2), (j165 3), (j165 4), (j165 5), (j165 6), (j165 7), (j165 8), (j165 9), (j165 10), (j165 11), (j165 12), (j165 13), (j165 14), .func (.func 46) #[] #[.pointer (some ⟨b21, 0, none⟩), .pointer (some ⟨b17, 0, none⟩)], .pointer (some ⟨b17, 0, none⟩), .int .i64 s1.W, .int .i64 x366, .bool true, .int .i64 x366, .pointer (some ⟨b17, 1, none⟩), .int .i64 s1.H, .int .i64 x411, .bool true, .int .i64 x411, .slice A406 column405.length c407, .int .i64 x411, .pointer (some ⟨b17, 0, none⟩), .int .i64 s1.W, .int .i64 (w64 (x411 * s1.W)), .int .i64 x366, .int .i64 (w64 ((w64 (x411 * s1.W)) + x366)), .slice (some ⟨b429, 0, none⟩) ([w64 ((w64 (x411 * s1.W)) + x366)] : List Int).length 1, .slice A438 (column405 ++ ([w64 ((w64 (x411 * s1.W)) + x366)] : List Int)).length c439, (j404 12), (j360 20), (j360 21), (j360 22), (j360 23), (j360 24), (j360 25), (j360 26), (j360 27), (j360 28), (j360 29), (j360 30), (j360 31), (j360 32), (j360 33), (j360 34), (j360 35), (j360 36), undef, undef], []⟩) (by kernel_rfl) ?_
            refine wpList_nil ?_
            refine hn422 _ _ ?_
            refine hK419 _ _ ?_
            refine wp_region_lit ?_
            refine seqS2 (a' := ⟨#[.agg #[.int .i64 s1.W, .int .i64 s1.H, .slice A2 s1.Bias.length c3, .slice A5 s1.Dark.length c6, .slice A8 s1.Flat.length c9, .int .i64 s1.Full, .int .i64 s1.Gain, .int .i64 s1.Noise], .slice A12 q11.length c13, .pointer (some ⟨b17, 0, none⟩), .pointer (some ⟨b21, 0, none⟩), .slice (some ⟨b59, 0, none⟩) out361.length ((q11.length : Int)).toNat, .int .i64 lost365, .int .i64 0, .int .i64 vt29, (j165 0), (j165 1), .pointer (some ⟨b175, 0, none⟩), .int .i64 x366, .slice A438 (column405 ++ ([w64 ((w64 (x411 * s1.W)) + x366)] : List Int)).length c439, .int .i64 x411, .agg #[.int .i64 s1.W, .int .i64 s1.H, .slice A2 s1.Bias.length c3, .slice A5 s1.Dark.length c6, .slice A8 s1.Flat.length c9, .int .i64 s1.Full, .int .i64 s1.Gain, .int .i64 s1.Noise], .slice A12 q11.length c13, .int .i64 (q11.length : Int), .int .i64 vt29, .int .i64 vt29, .bool false, undef, .slice A12 q11.length c13, .bool false, .slice A12 q11.length c13, .int .i64 (q11.length : Int), .slice (some ⟨b59, 0, none⟩) (List.replicate ((q11.length : Int)).toNat (0 : Int)).length ((q11.length : Int)).toNat, .slice A12 q11.length c13, .int .i64 (q11.length : Int), (j165 2), (j165 3), (j165 4), (j165 5), (j165 6), (j165 7), (j165 8), (j165 9), (j165 10), (j165 11), (j165 12), (j165 13), (j165 14), .func (.func 46) #[] #[.pointer (some ⟨b21, 0, none⟩), .pointer (some ⟨b17, 0, none⟩)], .pointer (some ⟨b17, 0, none⟩), .int .i64 s1.W, .int .i64 x366, .bool true, .int .i64 x366, .pointer (some ⟨b17, 1, none⟩), .int .i64 s1.H, .int .i64 (w64 (x411 + 1)), .bool true, .int .i64 x411, .slice A406 column405.length c407, .int .i64 x411, .pointer (some ⟨b17, 0, none⟩), .int .i64 s1.W, .int .i64 (w64 (x411 * s1.W)), .int .i64 x366, .int .i64 (w64 ((w64 (x411 * s1.W)) + x366)), .slice (some ⟨b429, 0, none⟩) ([w64 ((w64 (x411 * s1.W)) + x366)] : List Int).length 1, .slice A438 (column405 ++ ([w64 ((w64 (x411 * s1.W)) + x366)] : List Int)).length c439, .int .i64 (w64 (x411 + 1)), (j360 20), (j360 21), (j360 22), (j360 23), (j360 24), (j360 25), (j360 26), (j360 27), (j360 28), (j360 29), (j360 30), (j360 31), (j360 32), (j360 33), (j360 34), (j360 35), (j360 36), undef, undef], []⟩) (by kernel_rfl) ?_
            refine wpList_nil ?_
            refine hK398 n399 _ _ (Nat.lt_succ_self _) ?_
            exact ⟨f400, A438, c439, s440, (column405 ++ ([w64 ((w64 (x411 * s1.W)) + x366)] : List Int)), (w64 (x411 + 1)), (fun i_ => [Value.int .i64 x411, Value.bool true, Value.int .i64 x411, Value.slice A406 column405.length c407, Value.int .i64 x411, Value.pointer (some ⟨b17, 0, none⟩), Value.int .i64 s1.W, Value.int .i64 (w64 (x411 * s1.W)), Value.int .i64 x366, Value.int .i64 (w64 ((w64 (x411 * s1.W)) + x366)), Value.slice (some ⟨b429, 0, none⟩) ([w64 ((w64 (x411 * s1.W)) + x366)] : List Int).length 1, Value.slice A438 (column405 ++ ([w64 ((w64 (x411 * s1.W)) + x366)] : List Int)).length c439, Value.int .i64 (w64 (x411 + 1))].getD i_ undef), L401, HS442, HO443, h, (by kernel_rfl)⟩
          · have c417 : ¬ (x411 < s1.H) := c417
            refine wpRwI 50 (x := (decide (x411 < s1.H))) (v := false) (by kernel_rfl) (decide_eq_false c417) ?_
            refine condF (by kernel_rfl) ?_
            refine wp_exit ?_
            refine hx391 _ _ ?_
            exact J456 f400 A406 c407 s408 column405 (fun i_ => [(j404 0), Value.int .i64 x411, Value.bool false, (j404 2), (j404 3), (j404 4), (j404 5), (j404 6), (j404 7), (j404 8), (j404 9), (j404 10), (j404 11), (j404 12)].getD i_ undef) W402 _ L401 h HS403 HO409 (by kernel_rfl)
        · have c372 : ¬ (x366 < s1.W) := c372
          refine wpRwI 45 (x := (decide (x366 < s1.W))) (v := false) (by kernel_rfl) (decide_eq_false c372) ?_
          refine condF (by kernel_rfl) ?_
          refine wp_exit ?_
          refine hx186 _ _ ?_
          exact J528 f356 s362 out361 lost365 (fun i_ => [(j360 0), (j360 1), (j360 2), Value.int .i64 x366, Value.bool false, (j360 4), (j360 5), (j360 6), (j360 7), (j360 8), (j360 9), (j360 10), (j360 11), (j360 12), (j360 13), (j360 14), (j360 15), (j360 16), (j360 17), (j360 18), (j360 19), (j360 20), (j360 21), (j360 22), (j360 23), (j360 24), (j360 25), (j360 26), (j360 27), (j360 28), (j360 29), (j360 30), (j360 31), (j360 32), (j360 33), (j360 34), (j360 35), (j360 36)].getD i_ undef) W358 _ L357 h HS359 HO363 HL364 (by kernel_rfl)
      clear h; have h := hv170; clear hv170
      refine loopK (fun n_ a_ w_ => ∃ (f120 : FM) (s126 : Seg) (out125 : List Int) (x129 : Int) (j124 : Nat → Value), FM.le f47 f120 ∧ St t w_ f120 (s126 :: [(b21, .cells #[.slice A12 q11.length c13] 48 (0, 0))] :: [(b17, .cells #[.int .i64 s1.W, .int .i64 s1.H, .slice A2 s1.Bias.length c3, .slice A5 s1.Dark.length c6, .slice A8 s1.Flat.length c9, .int .i64 s1.Full, .int .i64 s1.Gain, .int .i64 s1.Noise] 46 (0, 0))] :: H) ∧ Own (tInt .i64) 22 f120 (some ⟨b59, 0, none⟩) ((q11.length : Int)).toNat s126 out125 ∧ out125.length = (List.replicate ((q11.length : Int)).toNat (0 : Int)).length ∧ sensor_Bleed.l0 k q11 s1 n_ out125 x129 = some o116 ∧ a_ = ⟨#[.agg #[.int .i64 s1.W, .int .i64 s1.H, .slice A2 s1.Bias.length c3, .slice A5 s1.Dark.length c6, .slice A8 s1.Flat.length c9, .int .i64 s1.Full, .int .i64 s1.Gain, .int .i64 s1.Noise], .slice A12 q11.length c13, .pointer (some ⟨b17, 0, none⟩), .pointer (some ⟨b21, 0, none⟩), .slice (some ⟨b59, 0, none⟩) out125.length ((q11.length : Int)).toNat, .int .i64 0, .int .i64 0, .int .i64 vt29, (j124 0), (j124 1), undef, undef, undef, undef, .agg #[.int .i64 s1.W, .int .i64 s1.H, .slice A2 s1.Bias.length c3, .slice A5 s1.Dark.length c6, .slice A8 s1.Flat.length c9, .int .i64 s1.Full, .int .i64 s1.Gain, .int .i64 s1.Noise], .slice A12 q11.length c13, .int .i64 (q11.length : Int), .int .i64 vt29, .int .i64 vt29, .bool false, undef, .slice A12 q11.length c13, .bool false, .slice A12 q11.length c13, .int .i64 (q11.length : Int), .slice (some ⟨b59, 0, none⟩) (List.replicate ((q11.length : Int)).toNat (0 : Int)).length ((q11.length : Int)).toNat, .slice A12 q11.length c13, .int .i64 (q11.length : Int), .int .i64 x129, (j124 2), (j124 3), (j124 4), (j124 5), (j124 6), (j124 7), (j124 8), (j124 9), (j124 10), (j124 11), (j124 12), (j124 13), undef, undef, undef, undef, undef, undef, undef, undef, undef, undef, undef, undef, undef, undef, undef, undef, undef, undef, undef, undef, undef, undef, undef, undef, undef, undef, undef, undef, undef, undef, undef, undef, undef, undef, undef, undef, undef, undef, undef, undef], []⟩) k ⟨f47, s61, (List.replicate ((q11.length : Int)).toNat (0 : Int)), 0, (fun i_ => [undef, undef, undef, undef, undef, undef, undef, undef, undef, undef, undef, undef, undef, undef].getD i_ undef), (FM.le.refl _), HS62, HO63, rfl, h, (by kernel_rfl)⟩ ?_
      clear h
      rintro n119 _ W122 ⟨f120, s126, out125, x129, j124, L121, HS123, HO127, HL128, h, rfl⟩ K117 hK118
      obtain _ | n119 := n119
      · exact nomatch h
      simp only [sensor_Bleed.l0] at h
      refine wp_seq_k (fun K130 hK131 => ?_)
      refine wp_region_lit ?_
      refine seqS1 (a' := ⟨#[.agg #[.int .i64 s1.W, .int .i64 s1.H, .slice A2 s1.Bias.length c3, .slice A5 s1.Dark.length c6, .slice A8 s1.Flat.length c9, .int .i64 s1.Full, .int .i64 s1.Gain, .int .i64 s1.Noise], .slice A12 q11.length c13, .pointer (some ⟨b17, 0, none⟩), .pointer (some ⟨b21, 0, none⟩), .slice (some ⟨b59, 0, none⟩) out125.length ((q11.length : Int)).toNat, .int .i64 0, .int .i64 0, .int .i64 vt29, (j124 0), (j124 1), undef, undef, undef, undef, .agg #[.int .i64 s1.W, .int .i64 s1.H, .slice A2 s1.Bias.length c3, .slice A5 s1.Dark.length c6, .slice A8 s1.Flat.length c9, .int .i64 s1.Full, .int .i64 s1.Gain, .int .i64 s1.Noise], .slice A12 q11.length c13, .int .i64 (q11.length : Int), .int .i64 vt29, .int .i64 vt29, .bool false, undef, .slice A12 q11.length c13, .bool false, .slice A12 q11.length c13, .int .i64 (q11.length : Int), .slice (some ⟨b59, 0, none⟩) (List.replicate ((q11.length : Int)).toNat (0 : Int)).length ((q11.length : Int)).toNat, .slice A12 q11.length c13, .int .i64 (q11.length : Int), .int .i64 x129, .bool (decide (x129 < (q11.length : Int))), (j124 3), (j124 4), (j124 5), (j124 6), (j124 7), (j124 8), (j124 9), (j124 10), (j124 11), (j124 12), (j124 13), undef, undef, undef, undef, undef, undef, undef, undef, undef, undef, undef, undef, undef, undef, undef, undef, undef, undef, undef, undef, undef, undef, undef, undef, undef, undef, undef, undef, undef, undef, undef, undef, undef, undef, undef, undef, undef, undef, undef, undef], []⟩) (by kernel_rfl) ?_
      refine wpList_nil ?_
      refine hK131 _ _ ?_
      refine wp_seq_k (fun K132 hK133 => ?_)
      have hq_ := ite_some h; clear h; rcases hq_ with ⟨c135, h⟩ | ⟨c135, h⟩
      · have c135 : x129 < (q11.length : Int) := c135
        refine wpRwI 29 (x := (decide (x129 < (q11.length : Int)))) (v := true) (by kernel_rfl) (decide_eq_true c135) ?_
        refine condT (by kernel_rfl) ?_
        refine wp_skip ?_
        refine hK133 _ _ ?_
        refine wp_seq_k (fun K136 hK137 => ?_)
        refine blockK (fun B138 hx139 hn140 hr141 ho142 hp143 => ?_)
        refine wp_seq_k (fun K145 hK146 => ?_)
        refine wp_region_lit ?_
        have hq_ := guard_some h; clear h; obtain ⟨c147, h⟩ := hq_
        have c147 : 0 ≤ x129 := c147
        obtain ⟨b151, of152, cs148, rfl, hr149, hc150⟩ := (HR14.mono (L32.trans (L48.trans L121))).at (i := x129) c147 c135
        obtain rfl := hr149
        refine seqL1 (by kernel_rfl) ?_
        refine seqK rfl (does_run (run_index (sz := 1) rfl Try.underlying48 (by kernel_rfl) (by kernel_rfl : _ = Value.slice (some ⟨b151, of152, none⟩) q11.length c13) (by kernel_rfl : _ = Value.int .i64 x129) c147 c135 W122) ?_)
        refine seqK rfl (does_run (run_load rfl Try.underlying22 rfl (by kernel_rfl : _ = Value.pointer (some ⟨b151, of152 + (x129 : Int).toNat * 1, none⟩)) ((hc150 (FM.le.refl _) HS123) 0 (by decide))) ?_)
        refine seqS2 (a' := ⟨#[.agg #[.int .i64 s1.W, .int .i64 s1.H, .slice A2 s1.Bias.length c3, .slice A5 s1.Dark.length c6, .slice A8 s1.Flat.length c9, .int .i64 s1.Full, .int .i64 s1.Gain, .int .i64 s1.Noise], .slice (some ⟨b151, of152, none⟩) q11.length c13, .pointer (some ⟨b17, 0, none⟩), .pointer (some ⟨b21, 0, none⟩), .slice (some ⟨b59, 0, none⟩) out125.length ((q11.length : Int)).toNat, .int .i64 0, .int .i64 0, .int .i64 vt29, .int .i64 x129, .int .i64 (rd q11 x129), undef, undef, undef, undef, .agg #[.int .i64 s1.W, .int .i64 s1.H, .slice A2 s1.Bias.length c3, .slice A5 s1.Dark.length c6, .slice A8 s1.Flat.length c9, .int .i64 s1.Full, .int .i64 s1.Gain, .int .i64 s1.Noise], .slice (some ⟨b151, of152, none⟩) q11.length c13, .int .i64 (q11.length : Int), .int .i64 vt29, .int .i64 vt29, .bool false, undef, .slice (some ⟨b151, of152, none⟩) q11.length c13, .bool false, .slice (some ⟨b151, of152, none⟩) q11.length c13, .int .i64 (q11.length : Int), .slice (some ⟨b59, 0, none⟩) (List.replicate ((q11.length : Int)).toNat (0 : Int)).length ((q11.length : Int)).toNat, .slice (some ⟨b151, of152, none⟩) q11.length c13, .int .i64 (q11.length : Int), .int .i64 x129, .bool true, .int .i64 x129, .pointer (some ⟨b151, of152 + (x129 : Int).toNat * 1, none⟩), .int .i64 (rd q11 x129), (j124 6), (j124 7), (j124 8), (j124 9), (j124 10), (j124 11), (j124 12), (j124 13), undef, undef, undef, undef, undef, undef, undef, undef, undef, undef, undef, undef, undef, undef, undef, undef, undef, undef, undef, undef, undef, undef, undef, undef, undef, undef, undef, undef, undef, undef, undef, undef, undef, undef, undef, undef, undef, undef, undef, undef], []⟩) (by kernel_rfl) ?_
        refine wpList_nil ?_
        refine hK146 _ _ ?_
        refine wp_region_lit ?_
        refine seqL4 (by kernel_rfl) ?_
        refine seqK rfl (does_run (run_load rfl Try.underlying22 rfl (by kernel_rfl : _ = Value.pointer (some ⟨b17, 5, none⟩)) (HS123.u2.cell 5)) ?_)
        have hq_ := guard_some h; clear h; obtain ⟨c153, h⟩ := hq_
        have c153 : x129 < (out125.length : Int) := c153
        obtain ⟨cs154, hr155, hc156⟩ := HO127.at' (i := x129) c147 c153
        obtain rfl := hr155
        refine seqL1 (by kernel_rfl) ?_
        refine seqK rfl (does_run (run_index (sz := 1) rfl Try.underlying48 (by kernel_rfl) (by kernel_rfl : _ = Value.slice (some ⟨b59, 0, none⟩) out125.length ((q11.length : Int)).toNat) (by kernel_rfl : _ = Value.int .i64 x129) c147 c153 W122) ?_)
        refine seqK rfl (does_put (e := (tInt .i64)) (E := 22) (vs := [.int .i64 (mn (rd q11 x129) s1.Full)]) (u := mn (rd q11 x129) s1.Full) (i := x129) rfl (by kernel_rfl) HO127 HS123 rfl (by kernel_rfl : _ = Value.pointer (some ⟨b59, 0 + (x129 : Int).toNat * 1, none⟩)) (by kernel_rfl : _ = Value.int .i64 (mn (rd q11 x129) s1.Full)) rfl rfl c147 c153 ?_)
        intro W157 s158 HS159 HO160
        refine seqRwS 4 (A := (some ⟨b59, 0, none⟩)) (m := out125.length) (n := (out125.set (x129).toNat (mn (rd q11 x129) s1.Full)).length) (c := ((q11.length : Int)).toNat) (by kernel_rfl) (List.length_set).symm ?_
        refine seqRwS 33 (A := (some ⟨b59, 0, none⟩)) (m := out125.length) (n := (out125.set (x129).toNat (mn (rd q11 x129) s1.Full)).length) (c := ((q11.length : Int)).toNat) (by kernel_rfl) (List.length_set).symm ?_
        refine wpList_nil ?_
        refine hn140 _ _ ?_
        refine hK137 _ _ ?_
        refine wp_region_lit ?_
        refine seqS2 (a' := ⟨#[.agg #[.int .i64 s1.W, .int .i64 s1.H, .slice A2 s1.Bias.length c3, .slice A5 s1.Dark.length c6, .slice A8 s1.Flat.length c9, .int .i64 s1.Full, .int .i64 s1.Gain, .int .i64 s1.Noise], .slice (some ⟨b151, of152, none⟩) q11.length c13, .pointer (some ⟨b17, 0, none⟩), .pointer (some ⟨b21, 0, none⟩), .slice (some ⟨b59, 0, none⟩) (out125.set (x129).toNat (mn (rd q11 x129) s1.Full)).length ((q11.length : Int)).toNat, .int .i64 0, .int .i64 0, .int .i64 vt29, .int .i64 x129, .int .i64 (rd q11 x129), undef, undef, undef, undef, .agg #[.int .i64 s1.W, .int .i64 s1.H, .slice A2 s1.Bias.length c3, .slice A5 s1.Dark.length c6, .slice A8 s1.Flat.length c9, .int .i64 s1.Full, .int .i64 s1.Gain, .int .i64 s1.Noise], .slice (some ⟨b151, of152, none⟩) q11.length c13, .int .i64 (q11.length : Int), .int .i64 vt29, .int .i64 vt29, .bool false, undef, .slice (some ⟨b151, of152, none⟩) q11.length c13, .bool false, .slice (some ⟨b151, of152, none⟩) q11.length c13, .int .i64 (q11.length : Int), .slice (some ⟨b59, 0, none⟩) (List.replicate ((q11.length : Int)).toNat (0 : Int)).length ((q11.length : Int)).toNat, .slice (some ⟨b151, of152, none⟩) q11.length c13, .int .i64 (q11.length : Int), .int .i64 (w64 (x129 + 1)), .bool true, .int .i64 x129, .pointer (some ⟨b151, of152 + (x129 : Int).toNat * 1, none⟩), .int .i64 (rd q11 x129), .slice (some ⟨b59, 0, none⟩) (out125.set (x129).toNat (mn (rd q11 x129) s1.Full)).length ((q11.length : Int)).toNat, .int .i64 x129, .int .i64 (rd q11 x129), .pointer (some ⟨b17, 5, none⟩), .int .i64 s1.Full, .int .i64 (mn (rd q11 x129) s1.Full), .pointer (some ⟨b59, 0 + (x129 : Int).toNat * 1, none⟩), .int .i64 (w64 (x129 + 1)), undef, undef, undef, undef, undef, undef, undef, undef, undef, undef, undef, undef, undef, undef, undef, undef, undef, undef, undef, undef, undef, undef, undef, undef, undef, undef, undef, undef, undef, undef, undef, undef, undef, undef, undef, undef, undef, undef, undef, undef], []⟩) (by kernel_rfl) ?_
        refine wpList_nil ?_
        refine hK118 n119 _ _ (Nat.lt_succ_self _) ?_
        exact ⟨f120, s158, (out125.set (x129).toNat (mn (rd q11 x129) s1.Full)), (w64 (x129 + 1)), (fun i_ => [Value.int .i64 x129, Value.int .i64 (rd q11 x129), Value.bool true, Value.int .i64 x129, Value.pointer (some ⟨b151, of152 + (x129 : Int).toNat * 1, none⟩), Value.int .i64 (rd q11 x129), Value.slice (some ⟨b59, 0, none⟩) (out125.set (x129).toNat (mn (rd q11 x129) s1.Full)).length ((q11.length : Int)).toNat, Value.int .i64 x129, Value.int .i64 (rd q11 x129), Value.pointer (some ⟨b17, 5, none⟩), Value.int .i64 s1.Full, Value.int .i64 (mn (rd q11 x129) s1.Full), Value.pointer (some ⟨b59, 0 + (x129 : Int).toNat * 1, none⟩), Value.int .i64 (w64 (x129 + 1))].getD i_ undef), L121, HS159, HO160, (List.length_set.trans HL128), h, (by kernel_rfl)⟩
      · have c135 : ¬ (x129 < (q11.length : Int)) := c135
        refine wpRwI 29 (x := (decide (x129 < (q11.length : Int)))) (v := false) (by kernel_rfl) (decide_eq_false c135) ?_
        refine condF (by kernel_rfl) ?_
        refine wp_exit ?_
        refine hx70 _ _ ?_
        exact J171 f120 s126 out125 (fun i_ => [(j124 0), (j124 1), Value.int .i64 x129, Value.bool false, (j124 3), (j124 4), (j124 5), (j124 6), (j124 7), (j124 8), (j124 9), (j124 10), (j124 11), (j124 12), (j124 13)].getD i_ undef) W122 _ L121 h HS123 HO127 HL128 (by kernel_rfl)

set_option maxRecDepth 100000 in
set_option maxHeartbeats 4000000 in
theorem num_size.calls (k : Nat)  (a1 : Int) {t w : World} {f : FM} {H : List Seg} (HS : St t w f (H)) (r1 : Int) (h : num_size k a1 = some r1) :
    Calls Try.prog 81 #[.int .i64 a1] w (fun e w' => ∃ (g : FM), e = .returned (Value.int .u64 r1) ∧ FM.le f g ∧ St t w' g (H)) := by
  unfold num_size at h
  refine enter Try.func81 rfl (tm := #[.int .i64 a1, undef, undef, undef, undef, undef, undef, undef, undef, undef]) (by kernel_rfl) ?_
  intro B hret hnor hnp
  refine wp_seq_k (fun K2 hK3 => ?_)
  refine wp_region_lit ?_
  refine seqS1 (a' := ⟨#[.int .i64 a1, undef, .int .u64 0, undef, undef, undef, undef, undef, undef, undef], []⟩) (by kernel_rfl) ?_
  refine wpList_nil ?_
  refine hK3 _ _ ?_
  refine wp_seq_k (fun K4 hK5 => ?_)
  refine wp_seq_k (fun K6 hK7 => ?_)
  refine wp_region_lit ?_
  refine seqS2 (a' := ⟨#[.int .i64 a1, undef, .int .u64 0, .int .i64 a1, .bool (decide (a1 < 0)), undef, undef, undef, undef, undef], []⟩) (by kernel_rfl) ?_
  refine wpList_nil ?_
  refine hK7 _ _ ?_
  have hq_ := ite_some h; clear h; rcases hq_ with ⟨c9, h⟩ | ⟨c9, h⟩
  · have c9 : a1 < 0 := c9
    refine wpRwI 4 (x := (decide (a1 < 0))) (v := true) (by kernel_rfl) (decide_eq_true c9) ?_
    refine condT (by kernel_rfl) ?_
    refine wp_seq_k (fun K10 hK11 => ?_)
    refine wp_region_lit ?_
    refine seqS4 (a' := ⟨#[.int .i64 a1, undef, .int .u64 (u64 (0 - (u64 (a1)))), .int .i64 a1, .bool true, .int .i64 a1, .int .u64 (u64 (a1)), .int .u64 (u64 (0 - (u64 (a1)))), undef, undef], []⟩) (by kernel_rfl) ?_
    refine wpList_nil ?_
    refine hK11 _ _ ?_
    refine wp_ret ?_
    refine hret _ _ ?_
    refine ends_still (v := Value.int .u64 (u64 (0 - (u64 (a1))))) (by kernel_rfl) (by kernel_rfl) ?_
    injection h with h
    subst h
    exact ⟨f, rfl, FM.le.refl _, HS⟩
  · have c9 : ¬ (a1 < 0) := c9
    refine wpRwI 4 (x := (decide (a1 < 0))) (v := false) (by kernel_rfl) (decide_eq_false c9) ?_
    refine condF (by kernel_rfl) ?_
    refine wp_skip ?_
    refine hK5 _ _ ?_
    refine wp_seq_k (fun K12 hK13 => ?_)
    refine wp_region_lit ?_
    refine seqS3 (a' := ⟨#[.int .i64 a1, undef, .int .u64 (u64 (a1)), .int .i64 a1, .bool false, undef, undef, undef, .int .i64 a1, .int .u64 (u64 (a1))], []⟩) (by kernel_rfl) ?_
    refine wpList_nil ?_
    refine hK13 _ _ ?_
    refine wp_ret ?_
    refine hret _ _ ?_
    refine ends_still (v := Value.int .u64 (u64 (a1))) (by kernel_rfl) (by kernel_rfl) ?_
    injection h with h
    subst h
    exact ⟨f, rfl, FM.le.refl _, HS⟩

set_option maxRecDepth 100000 in
set_option maxHeartbeats 4000000 in
theorem bits_Mul64.calls (k : Nat)  (x1 : Int) (y2 : Int) {t w : World} {f : FM} {H : List Seg} (HS : St t w f (H)) (r1 : Int) (r2 : Int) (h : bits_Mul64 k x1 y2 = some (r1, r2)) :
    Calls Try.prog 58 #[.int .u64 x1, .int .u64 y2] w (fun e w' => ∃ (g : FM), e = .returned (Value.tuple #[.int .u64 r1, .int .u64 r2]) ∧ FM.le f g ∧ St t w' g (H)) := by
  unfold bits_Mul64 at h
  refine enter Try.func58 rfl (tm := #[.int .u64 x1, .int .u64 y2, undef, undef, undef, undef, undef, undef, undef, undef, undef, undef, undef, undef, undef, undef, undef, undef, undef, undef, undef, undef, undef, undef, undef, undef, undef, undef, undef, undef, undef, undef, undef, undef, undef, undef, undef, undef, undef, undef, undef, undef, undef, undef, undef, undef, undef, undef, undef, undef, undef]) (by kernel_rfl) ?_
  intro B hret hnor hnp
  refine wp_seq_k (fun K3 hK4 => ?_)
  refine wp_region_lit ?_
  refine seqS2 (a' := ⟨#[.int .u64 x1, .int .u64 y2, undef, undef, .int .u64 0, .int .u64 0, undef, undef, undef, undef, undef, undef, undef, undef, undef, undef, undef, undef, undef, undef, undef, undef, undef, undef, undef, undef, undef, undef, undef, undef, undef, undef, undef, undef, undef, undef, undef, undef, undef, undef, undef, undef, undef, undef, undef, undef, undef, undef, undef, undef, undef], []⟩) (by kernel_rfl) ?_
  refine wpList_nil ?_
  refine hK4 _ _ ?_
  refine wp_seq_k (fun K5 hK6 => ?_)
  refine wp_region_lit ?_
  refine seqS3 (a' := ⟨#[.int .u64 x1, .int .u64 y2, undef, undef, .int .u64 0, .int .u64 0, .int .u64 (Go.bits .and .u64 x1 4294967295), undef, undef, undef, undef, undef, undef, undef, .int .u64 x1, .int .u64 (Go.bits .and .u64 x1 4294967295), undef, undef, undef, undef, undef, undef, undef, undef, undef, undef, undef, undef, undef, undef, undef, undef, undef, undef, undef, undef, undef, undef, undef, undef, undef, undef, undef, undef, undef, undef, undef, undef, undef, undef, undef], []⟩) (by kernel_rfl) ?_
  refine wpList_nil ?_
  refine hK6 _ _ ?_
  refine wp_seq_k (fun K7 hK8 => ?_)
  refine wp_region_lit ?_
  refine seqS3 (a' := ⟨#[.int .u64 x1, .int .u64 y2, undef, undef, .int .u64 0, .int .u64 0, .int .u64 (Go.bits .and .u64 x1 4294967295), .int .u64 (shr x1 32), undef, undef, undef, undef, undef, undef, .int .u64 x1, .int .u64 (Go.bits .and .u64 x1 4294967295), .int .u64 x1, .int .u64 (shr x1 32), undef, undef, undef, undef, undef, undef, undef, undef, undef, undef, undef, undef, undef, undef, undef, undef, undef, undef, undef, undef, undef, undef, undef, undef, undef, undef, undef, undef, undef, undef, undef, undef, undef], []⟩) (by kernel_rfl) ?_
  refine wpList_nil ?_
  refine hK8 _ _ ?_
  refine wp_seq_k (fun K9 hK10 => ?_)
  refine wp_region_lit ?_
  refine seqS3 (a' := ⟨#[.int .u64 x1, .int .u64 y2, undef, undef, .int .u64 0, .int .u64 0, .int .u64 (Go.bits .and .u64 x1 4294967295), .int .u64 (shr x1 32), .int .u64 (Go.bits .and .u64 y2 4294967295), undef, undef, undef, undef, undef, .int .u64 x1, .int .u64 (Go.bits .and .u64 x1 4294967295), .int .u64 x1, .int .u64 (shr x1 32), .int .u64 y2, .int .u64 (Go.bits .and .u64 y2 4294967295), undef, undef, undef, undef, undef, undef, undef, undef, undef, undef, undef, undef, undef, undef, undef, undef, undef, undef, undef, undef, undef, undef, undef, undef, undef, undef, undef, undef, undef, undef, undef], []⟩) (by kernel_rfl) ?_
  refine wpList_nil ?_
  refine hK10 _ _ ?_
  refine wp_seq_k (fun K11 hK12 => ?_)
  refine wp_region_lit ?_
  refine seqS3 (a' := ⟨#[.int .u64 x1, .int .u64 y2, undef, undef, .int .u64 0, .int .u64 0, .int .u64 (Go.bits .and .u64 x1 4294967295), .int .u64 (shr x1 32), .int .u64 (Go.bits .and .u64 y2 4294967295), .int .u64 (shr y2 32), undef, undef, undef, undef, .int .u64 x1, .int .u64 (Go.bits .and .u64 x1 4294967295), .int .u64 x1, .int .u64 (shr x1 32), .int .u64 y2, .int .u64 (Go.bits .and .u64 y2 4294967295), .int .u64 y2, .int .u64 (shr y2 32), undef, undef, undef, undef, undef, undef, undef, undef, undef, undef, undef, undef, undef, undef, undef, undef, undef, undef, undef, undef, undef, undef, undef, undef, undef, undef, undef, undef, undef], []⟩) (by kernel_rfl) ?_
  refine wpList_nil ?_
  refine hK12 _ _ ?_
  refine wp_seq_k (fun K13 hK14 => ?_)
  refine wp_region_lit ?_
  refine seqS4 (a' := ⟨#[.int .u64 x1, .int .u64 y2, undef, undef, .int .u64 0, .int .u64 0, .int .u64 (Go.bits .and .u64 x1 4294967295), .int .u64 (shr x1 32), .int .u64 (Go.bits .and .u64 y2 4294967295), .int .u64 (shr y2 32), .int .u64 (u64 ((Go.bits .and .u64 x1 4294967295) * (Go.bits .and .u64 y2 4294967295))), undef, undef, undef, .int .u64 x1, .int .u64 (Go.bits .and .u64 x1 4294967295), .int .u64 x1, .int .u64 (shr x1 32), .int .u64 y2, .int .u64 (Go.bits .and .u64 y2 4294967295), .int .u64 y2, .int .u64 (shr y2 32), .int .u64 (Go.bits .and .u64 x1 4294967295), .int .u64 (Go.bits .and .u64 y2 4294967295), .int .u64 (u64 ((Go.bits .and .u64 x1 4294967295) * (Go.bits .and .u64 y2 4294967295))), undef, undef, undef, undef, undef, undef, undef, undef, undef, undef, undef, undef, undef, undef, undef, undef, undef, undef, undef, undef, undef, undef, undef, undef, undef, undef], []⟩) (by kernel_rfl) ?_
  refine wpList_nil ?_
  refine hK14 _ _ ?_
  refine wp_seq_k (fun K15 hK16 => ?_)
  refine wp_region_lit ?_
  refine seqS7 (a' := ⟨#[.int .u64 x1, .int .u64 y2, undef, undef, .int .u64 0, .int .u64 0, .int .u64 (Go.bits .and .u64 x1 4294967295), .int .u64 (shr x1 32), .int .u64 (Go.bits .and .u64 y2 4294967295), .int .u64 (shr y2 32), .int .u64 (u64 ((Go.bits .and .u64 x1 4294967295) * (Go.bits .and .u64 y2 4294967295))), .int .u64 (u64 ((u64 ((shr x1 32) * (Go.bits .and .u64 y2 4294967295))) + (shr (u64 ((Go.bits .and .u64 x1 4294967295) * (Go.bits .and .u64 y2 4294967295))) 32))), undef, undef, .int .u64 x1, .int .u64 (Go.bits .and .u64 x1 4294967295), .int .u64 x1, .int .u64 (shr x1 32), .int .u64 y2, .int .u64 (Go.bits .and .u64 y2 4294967295), .int .u64 y2, .int .u64 (shr y2 32), .int .u64 (Go.bits .and .u64 x1 4294967295), .int .u64 (Go.bits .and .u64 y2 4294967295), .int .u64 (u64 ((Go.bits .and .u64 x1 4294967295) * (Go.bits .and .u64 y2 4294967295))), .int .u64 (shr x1 32), .int .u64 (Go.bits .and .u64 y2 4294967295), .int .u64 (u64 ((shr x1 32) * (Go.bits .and .u64 y2 4294967295))), .int .u64 (u64 ((Go.bits .and .u64 x1 4294967295) * (Go.bits .and .u64 y2 4294967295))), .int .u64 (shr (u64 ((Go.bits .and .u64 x1 4294967295) * (Go.bits .and .u64 y2 4294967295))) 32), .int .u64 (u64 ((u64 ((shr x1 32) * (Go.bits .and .u64 y2 4294967295))) + (shr (u64 ((Go.bits .and .u64 x1 4294967295) * (Go.bits .and .u64 y2 4294967295))) 32))), undef, undef, undef, undef, undef, undef, undef, undef, undef, undef, undef, undef, undef, undef, undef, undef, undef, undef, undef, undef], []⟩) (by kernel_rfl) ?_
  refine wpList_nil ?_
  refine hK16 _ _ ?_
  refine wp_seq_k (fun K17 hK18 => ?_)
  refine wp_region_lit ?_
  refine seqS3 (a' := ⟨#[.int .u64 x1, .int .u64 y2, undef, undef, .int .u64 0, .int .u64 0, .int .u64 (Go.bits .and .u64 x1 4294967295), .int .u64 (shr x1 32), .int .u64 (Go.bits .and .u64 y2 4294967295), .int .u64 (shr y2 32), .int .u64 (u64 ((Go.bits .and .u64 x1 4294967295) * (Go.bits .and .u64 y2 4294967295))), .int .u64 (u64 ((u64 ((shr x1 32) * (Go.bits .and .u64 y2 4294967295))) + (shr (u64 ((Go.bits .and .u64 x1 4294967295) * (Go.bits .and .u64 y2 4294967295))) 32))), .int .u64 (Go.bits .and .u64 (u64 ((u64 ((shr x1 32) * (Go.bits .and .u64 y2 4294967295))) + (shr (u64 ((Go.bits .and .u64 x1 4294967295) * (Go.bits .and .u64 y2 4294967295))) 32))) 4294967295), undef, .int .u64 x1, .int .u64 (Go.bits .and .u64 x1 4294967295), .int .u64 x1, .int .u64 (shr x1 32), .int .u64 y2, .int .u64 (Go.bits .and .u64 y2 4294967295), .int .u64 y2, .int .u64 (shr y2 32), .int .u64 (Go.bits .and .u64 x1 4294967295), .int .u64 (Go.bits .and .u64 y2 4294967295), .int .u64 (u64 ((Go.bits .and .u64 x1 4294967295) * (Go.bits .and .u64 y2 4294967295))), .int .u64 (shr x1 32), .int .u64 (Go.bits .and .u64 y2 4294967295), .int .u64 (u64 ((shr x1 32) * (Go.bits .and .u64 y2 4294967295))), .int .u64 (u64 ((Go.bits .and .u64 x1 4294967295) * (Go.bits .and .u64 y2 4294967295))), .int .u64 (shr (u64 ((Go.bits .and .u64 x1 4294967295) * (Go.bits .and .u64 y2 4294967295))) 32), .int .u64 (u64 ((u64 ((shr x1 32) * (Go.bits .and .u64 y2 4294967295))) + (shr (u64 ((Go.bits .and .u64 x1 4294967295) * (Go.bits .and .u64 y2 4294967295))) 32))), .int .u64 (u64 ((u64 ((shr x1 32) * (Go.bits .and .u64 y2 4294967295))) + (shr (u64 ((Go.bits .and .u64 x1 4294967295) * (Go.bits .and .u64 y2 4294967295))) 32))), .int .u64 (Go.bits .and .u64 (u64 ((u64 ((shr x1 32) * (Go.bits .and .u64 y2 4294967295))) + (shr (u64 ((Go.bits .and .u64 x1 4294967295) * (Go.bits .and .u64 y2 4294967295))) 32))) 4294967295), undef, undef, undef, undef, undef, undef, undef, undef, undef, undef, undef, undef, undef, undef, undef, undef, undef, undef], []⟩) (by kernel_rfl) ?_
  refine wpList_nil ?_
  refine hK18 _ _ ?_
  refine wp_seq_k (fun K19 hK20 => ?_)
  refine wp_region_lit ?_
  refine seqS3 (a' := ⟨#[.int .u64 x1, .int .u64 y2, undef, undef, .int .u64 0, .int .u64 0, .int .u64 (Go.bits .and .u64 x1 4294967295), .int .u64 (shr x1 32), .int .u64 (Go.bits .and .u64 y2 4294967295), .int .u64 (shr y2 32), .int .u64 (u64 ((Go.bits .and .u64 x1 4294967295) * (Go.bits .and .u64 y2 4294967295))), .int .u64 (u64 ((u64 ((shr x1 32) * (Go.bits .and .u64 y2 4294967295))) + (shr (u64 ((Go.bits .and .u64 x1 4294967295) * (Go.bits .and .u64 y2 4294967295))) 32))), .int .u64 (Go.bits .and .u64 (u64 ((u64 ((shr x1 32) * (Go.bits .and .u64 y2 4294967295))) + (shr (u64 ((Go.bits .and .u64 x1 4294967295) * (Go.bits .and .u64 y2 4294967295))) 32))) 4294967295), .int .u64 (shr (u64 ((u64 ((shr x1 32) * (Go.bits .and .u64 y2 4294967295))) + (shr (u64 ((Go.bits .and .u64 x1 4294967295) * (Go.bits .and .u64 y2 4294967295))) 32))) 32), .int .u64 x1, .int .u64 (Go.bits .and .u64 x1 4294967295), .int .u64 x1, .int .u64 (shr x1 32), .int .u64 y2, .int .u64 (Go.bits .and .u64 y2 4294967295), .int .u64 y2, .int .u64 (shr y2 32), .int .u64 (Go.bits .and .u64 x1 4294967295), .int .u64 (Go.bits .and .u64 y2 4294967295), .int .u64 (u64 ((Go.bits .and .u64 x1 4294967295) * (Go.bits .and .u64 y2 4294967295))), .int .u64 (shr x1 32), .int .u64 (Go.bits .and .u64 y2 4294967295), .int .u64 (u64 ((shr x1 32) * (Go.bits .and .u64 y2 4294967295))), .int .u64 (u64 ((Go.bits .and .u64 x1 4294967295) * (Go.bits .and .u64 y2 4294967295))), .int .u64 (shr (u64 ((Go.bits .and .u64 x1 4294967295) * (Go.bits .and .u64 y2 4294967295))) 32), .int .u64 (u64 ((u64 ((shr x1 32) * (Go.bits .and .u64 y2 4294967295))) + (shr (u64 ((Go.bits .and .u64 x1 4294967295) * (Go.bits .and .u64 y2 4294967295))) 32))), .int .u64 (u64 ((u64 ((shr x1 32) * (Go.bits .and .u64 y2 4294967295))) + (shr (u64 ((Go.bits .and .u64 x1 4294967295) * (Go.bits .and .u64 y2 4294967295))) 32))), .int .u64 (Go.bits .and .u64 (u64 ((u64 ((shr x1 32) * (Go.bits .and .u64 y2 4294967295))) + (shr (u64 ((Go.bits .and .u64 x1 4294967295) * (Go.bits .and .u64 y2 4294967295))) 32))) 4294967295), .int .u64 (u64 ((u64 ((shr x1 32) * (Go.bits .and .u64 y2 4294967295))) + (shr (u64 ((Go.bits .and .u64 x1 4294967295) * (Go.bits .and .u64 y2 4294967295))) 32))), .int .u64 (shr (u64 ((u64 ((shr x1 32) * (Go.bits .and .u64 y2 4294967295))) + (shr (u64 ((Go.bits .and .u64 x1 4294967295) * (Go.bits .and .u64 y2 4294967295))) 32))) 32), undef, undef, undef, undef, undef, undef, undef, undef, undef, undef, undef, undef, undef, undef, undef, undef], []⟩) (by kernel_rfl) ?_
  refine wpList_nil ?_
  refine hK20 _ _ ?_
  refine wp_seq_k (fun K21 hK22 => ?_)
  refine wp_region_lit ?_
  refine seqS6 (a' := ⟨#[.int .u64 x1, .int .u64 y2, undef, undef, .int .u64 0, .int .u64 0, .int .u64 (Go.bits .and .u64 x1 4294967295), .int .u64 (shr x1 32), .int .u64 (Go.bits .and .u64 y2 4294967295), .int .u64 (shr y2 32), .int .u64 (u64 ((Go.bits .and .u64 x1 4294967295) * (Go.bits .and .u64 y2 4294967295))), .int .u64 (u64 ((u64 ((shr x1 32) * (Go.bits .and .u64 y2 4294967295))) + (shr (u64 ((Go.bits .and .u64 x1 4294967295) * (Go.bits .and .u64 y2 4294967295))) 32))), .int .u64 (u64 ((Go.bits .and .u64 (u64 ((u64 ((shr x1 32) * (Go.bits .and .u64 y2 4294967295))) + (shr (u64 ((Go.bits .and .u64 x1 4294967295) * (Go.bits .and .u64 y2 4294967295))) 32))) 4294967295) + (u64 ((Go.bits .and .u64 x1 4294967295) * (shr y2 32))))), .int .u64 (shr (u64 ((u64 ((shr x1 32) * (Go.bits .and .u64 y2 4294967295))) + (shr (u64 ((Go.bits .and .u64 x1 4294967295) * (Go.bits .and .u64 y2 4294967295))) 32))) 32), .int .u64 x1, .int .u64 (Go.bits .and .u64 x1 4294967295), .int .u64 x1, .int .u64 (shr x1 32), .int .u64 y2, .int .u64 (Go.bits .and .u64 y2 4294967295), .int .u64 y2, .int .u64 (shr y2 32), .int .u64 (Go.bits .and .u64 x1 4294967295), .int .u64 (Go.bits .and .u64 y2 4294967295), .int .u64 (u64 ((Go.bits .and .u64 x1 4294967295) * (Go.bits .and .u64 y2 4294967295))), .int .u64 (shr x1 32), .int .u64 (Go.bits .and .u64 y2 4294967295), .int .u64 (u64 ((shr x1 32) * (Go.bits .and .u64 y2 4294967295))), .int .u64 (u64 ((Go.bits .and .u64 x1 4294967295) * (Go.bits .and .u64 y2 4294967295))), .int .u64 (shr (u64 ((Go.bits .and .u64 x1 4294967295) * (Go.bits .and .u64 y2 4294967295))) 32), .int .u64 (u64 ((u64 ((shr x1 32) * (Go.bits .and .u64 y2 4294967295))) + (shr (u64 ((Go.bits .and .u64 x1 4294967295) * (Go.bits .and .u64 y2 4294967295))) 32))), .int .u64 (u64 ((u64 ((shr x1 32) * (Go.bits .and .u64 y2 4294967295))) + (shr (u64 ((Go.bits .and .u64 x1 4294967295) * (Go.bits .and .u64 y2 4294967295))) 32))), .int .u64 (Go.bits .and .u64 (u64 ((u64 ((shr x1 32) * (Go.bits .and .u64 y2 4294967295))) + (shr (u64 ((Go.bits .and .u64 x1 4294967295) * (Go.bits .and .u64 y2 4294967295))) 32))) 4294967295), .int .u64 (u64 ((u64 ((shr x1 32) * (Go.bits .and .u64 y2 4294967295))) + (shr (u64 ((Go.bits .and .u64 x1 4294967295) * (Go.bits .and .u64 y2 4294967295))) 32))), .int .u64 (shr (u64 ((u64 ((shr x1 32) * (Go.bits .and .u64 y2 4294967295))) + (shr (u64 ((Go.bits .and .u64 x1 4294967295) * (Go.bits .and .u64 y2 4294967295))) 32))) 32), .int .u64 (Go.bits .and .u64 (u64 ((u64 ((shr x1 32) * (Go.bits .and .u64 y2 4294967295))) + (shr (u64 ((Go.bits .and .u64 x1 4294967295) * (Go.bits .and .u64 y2 4294967295))) 32))) 4294967295), .int .u64 (Go.bits .and .u64 x1 4294967295), .int .u64 (shr y2 32), .int .u64 (u64 ((Go.bits .and .u64 x1 4294967295) * (shr y2 32))), .int .u64 (u64 ((Go.bits .and .u64 (u64 ((u64 ((shr x1 32) * (Go.bits .and .u64 y2 4294967295))) + (shr (u64 ((Go.bits .and .u64 x1 4294967295) * (Go.bits .and .u64 y2 4294967295))) 32))) 4294967295) + (u64 ((Go.bits .and .u64 x1 4294967295) * (shr y2 32))))), undef, undef, undef, undef, undef, undef, undef, undef, undef, undef, undef], []⟩) (by kernel_rfl) ?_
  refine wpList_nil ?_
  refine hK22 _ _ ?_
  refine wp_seq_k (fun K23 hK24 => ?_)
  refine wp_region_lit ?_
  refine seqS9 (a' := ⟨#[.int .u64 x1, .int .u64 y2, undef, undef, .int .u64 (u64 ((u64 ((u64 ((shr x1 32) * (shr y2 32))) + (shr (u64 ((u64 ((shr x1 32) * (Go.bits .and .u64 y2 4294967295))) + (shr (u64 ((Go.bits .and .u64 x1 4294967295) * (Go.bits .and .u64 y2 4294967295))) 32))) 32))) + (shr (u64 ((Go.bits .and .u64 (u64 ((u64 ((shr x1 32) * (Go.bits .and .u64 y2 4294967295))) + (shr (u64 ((Go.bits .and .u64 x1 4294967295) * (Go.bits .and .u64 y2 4294967295))) 32))) 4294967295) + (u64 ((Go.bits .and .u64 x1 4294967295) * (shr y2 32))))) 32))), .int .u64 0, .int .u64 (Go.bits .and .u64 x1 4294967295), .int .u64 (shr x1 32), .int .u64 (Go.bits .and .u64 y2 4294967295), .int .u64 (shr y2 32), .int .u64 (u64 ((Go.bits .and .u64 x1 4294967295) * (Go.bits .and .u64 y2 4294967295))), .int .u64 (u64 ((u64 ((shr x1 32) * (Go.bits .and .u64 y2 4294967295))) + (shr (u64 ((Go.bits .and .u64 x1 4294967295) * (Go.bits .and .u64 y2 4294967295))) 32))), .int .u64 (u64 ((Go.bits .and .u64 (u64 ((u64 ((shr x1 32) * (Go.bits .and .u64 y2 4294967295))) + (shr (u64 ((Go.bits .and .u64 x1 4294967295) * (Go.bits .and .u64 y2 4294967295))) 32))) 4294967295) + (u64 ((Go.bits .and .u64 x1 4294967295) * (shr y2 32))))), .int .u64 (shr (u64 ((u64 ((shr x1 32) * (Go.bits .and .u64 y2 4294967295))) + (shr (u64 ((Go.bits .and .u64 x1 4294967295) * (Go.bits .and .u64 y2 4294967295))) 32))) 32), .int .u64 x1, .int .u64 (Go.bits .and .u64 x1 4294967295), .int .u64 x1, .int .u64 (shr x1 32), .int .u64 y2, .int .u64 (Go.bits .and .u64 y2 4294967295), .int .u64 y2, .int .u64 (shr y2 32), .int .u64 (Go.bits .and .u64 x1 4294967295), .int .u64 (Go.bits .and .u64 y2 4294967295), .int .u64 (u64 ((Go.bits .and .u64 x1 4294967295) * (Go.bits .and .u64 y2 4294967295))), .int .u64 (shr x1 32), .int .u64 (Go.bits .and .u64 y2 4294967295), .int .u64 (u64 ((shr x1 32) * (Go.bits .and .u64 y2 4294967295))), .int .u64 (u64 ((Go.bits .and .u64 x1 4294967295) * (Go.bits .and .u64 y2 4294967295))), .int .u64 (shr (u64 ((Go.bits .and .u64 x1 4294967295) * (Go.bits .and .u64 y2 4294967295))) 32), .int .u64 (u64 ((u64 ((shr x1 32) * (Go.bits .and .u64 y2 4294967295))) + (shr (u64 ((Go.bits .and .u64 x1 4294967295) * (Go.bits .and .u64 y2 4294967295))) 32))), .int .u64 (u64 ((u64 ((shr x1 32) * (Go.bits .and .u64 y2 4294967295))) + (shr (u64 ((Go.bits .and .u64 x1 4294967295) * (Go.bits .and .u64 y2 4294967295))) 32))), .int .u64 (Go.bits .and .u64 (u64 ((u64 ((shr x1 32) * (Go.bits .and .u64 y2 4294967295))) + (shr (u64 ((Go.bits .and .u64 x1 4294967295) * (Go.bits .and .u64 y2 4294967295))) 32))) 4294967295), .int .u64 (u64 ((u64 ((shr x1 32) * (Go.bits .and .u64 y2 4294967295))) + (shr (u64 ((Go.bits .and .u64 x1 4294967295) * (Go.bits .and .u64 y2 4294967295))) 32))), .int .u64 (shr (u64 ((u64 ((shr x1 32) * (Go.bits .and .u64 y2 4294967295))) + (shr (u64 ((Go.bits .and .u64 x1 4294967295) * (Go.bits .and .u64 y2 4294967295))) 32))) 32), .int .u64 (Go.bits .and .u64 (u64 ((u64 ((shr x1 32) * (Go.bits .and .u64 y2 4294967295))) + (shr (u64 ((Go.bits .and .u64 x1 4294967295) * (Go.bits .and .u64 y2 4294967295))) 32))) 4294967295), .int .u64 (Go.bits .and .u64 x1 4294967295), .int .u64 (shr y2 32), .int .u64 (u64 ((Go.bits .and .u64 x1 4294967295) * (shr y2 32))), .int .u64 (u64 ((Go.bits .and .u64 (u64 ((u64 ((shr x1 32) * (Go.bits .and .u64 y2 4294967295))) + (shr (u64 ((Go.bits .and .u64 x1 4294967295) * (Go.bits .and .u64 y2 4294967295))) 32))) 4294967295) + (u64 ((Go.bits .and .u64 x1 4294967295) * (shr y2 32))))), .int .u64 (shr x1 32), .int .u64 (shr y2 32), .int .u64 (u64 ((shr x1 32) * (shr y2 32))), .int .u64 (shr (u64 ((u64 ((shr x1 32) * (Go.bits .and .u64 y2 4294967295))) + (shr (u64 ((Go.bits .and .u64 x1 4294967295) * (Go.bits .and .u64 y2 4294967295))) 32))) 32), .int .u64 (u64 ((u64 ((shr x1 32) * (shr y2 32))) + (shr (u64 ((u64 ((shr x1 32) * (Go.bits .and .u64 y2 4294967295))) + (shr (u64 ((Go.bits .and .u64 x1 4294967295) * (Go.bits .and .u64 y2 4294967295))) 32))) 32))), .int .u64 (u64 ((Go.bits .and .u64 (u64 ((u64 ((shr x1 32) * (Go.bits .and .u64 y2 4294967295))) + (shr (u64 ((Go.bits .and .u64 x1 4294967295) * (Go.bits .and .u64 y2 4294967295))) 32))) 4294967295) + (u64 ((Go.bits .and .u64 x1 4294967295) * (shr y2 32))))), .int .u64 (shr (u64 ((Go.bits .and .u64 (u64 ((u64 ((shr x1 32) * (Go.bits .and .u64 y2 4294967295))) + (shr (u64 ((Go.bits .and .u64 x1 4294967295) * (Go.bits .and .u64 y2 4294967295))) 32))) 4294967295) + (u64 ((Go.bits .and .u64 x1 4294967295) * (shr y2 32))))) 32), .int .u64 (u64 ((u64 ((u64 ((shr x1 32) * (shr y2 32))) + (shr (u64 ((u64 ((shr x1 32) * (Go.bits .and .u64 y2 4294967295))) + (shr (u64 ((Go.bits .and .u64 x1 4294967295) * (Go.bits .and .u64 y2 4294967295))) 32))) 32))) + (shr (u64 ((Go.bits .and .u64 (u64 ((u64 ((shr x1 32) * (Go.bits .and .u64 y2 4294967295))) + (shr (u64 ((Go.bits .and .u64 x1 4294967295) * (Go.bits .and .u64 y2 4294967295))) 32))) 4294967295) + (u64 ((Go.bits .and .u64 x1 4294967295) * (shr y2 32))))) 32))), undef, undef, undef], []⟩) (by kernel_rfl) ?_
  refine wpList_nil ?_
  refine hK24 _ _ ?_
  refine wp_seq_k (fun K25 hK26 => ?_)
  refine wp_region_lit ?_
  refine seqS4 (a' := ⟨#[.int .u64 x1, .int .u64 y2, undef, undef, .int .u64 (u64 ((u64 ((u64 ((shr x1 32) * (shr y2 32))) + (shr (u64 ((u64 ((shr x1 32) * (Go.bits .and .u64 y2 4294967295))) + (shr (u64 ((Go.bits .and .u64 x1 4294967295) * (Go.bits .and .u64 y2 4294967295))) 32))) 32))) + (shr (u64 ((Go.bits .and .u64 (u64 ((u64 ((shr x1 32) * (Go.bits .and .u64 y2 4294967295))) + (shr (u64 ((Go.bits .and .u64 x1 4294967295) * (Go.bits .and .u64 y2 4294967295))) 32))) 4294967295) + (u64 ((Go.bits .and .u64 x1 4294967295) * (shr y2 32))))) 32))), .int .u64 (u64 (x1 * y2)), .int .u64 (Go.bits .and .u64 x1 4294967295), .int .u64 (shr x1 32), .int .u64 (Go.bits .and .u64 y2 4294967295), .int .u64 (shr y2 32), .int .u64 (u64 ((Go.bits .and .u64 x1 4294967295) * (Go.bits .and .u64 y2 4294967295))), .int .u64 (u64 ((u64 ((shr x1 32) * (Go.bits .and .u64 y2 4294967295))) + (shr (u64 ((Go.bits .and .u64 x1 4294967295) * (Go.bits .and .u64 y2 4294967295))) 32))), .int .u64 (u64 ((Go.bits .and .u64 (u64 ((u64 ((shr x1 32) * (Go.bits .and .u64 y2 4294967295))) + (shr (u64 ((Go.bits .and .u64 x1 4294967295) * (Go.bits .and .u64 y2 4294967295))) 32))) 4294967295) + (u64 ((Go.bits .and .u64 x1 4294967295) * (shr y2 32))))), .int .u64 (shr (u64 ((u64 ((shr x1 32) * (Go.bits .and .u64 y2 4294967295))) + (shr (u64 ((Go.bits .and .u64 x1 4294967295) * (Go.bits .and .u64 y2 4294967295))) 32))) 32), .int .u64 x1, .int .u64 (Go.bits .and .u64 x1 4294967295), .int .u64 x1, .int .u64 (shr x1 32), .int .u64 y2, .int .u64 (Go.bits .and .u64 y2 4294967295), .int .u64 y2, .int .u64 (shr y2 32), .int .u64 (Go.bits .and .u64 x1 4294967295), .int .u64 (Go.bits .and .u64 y2 4294967295), .int .u64 (u64 ((Go.bits .and .u64 x1 4294967295) * (Go.bits .and .u64 y2 4294967295))), .int .u64 (shr x1 32), .int .u64 (Go.bits .and .u64 y2 4294967295), .int .u64 (u64 ((shr x1 32) * (Go.bits .and .u64 y2 4294967295))), .int .u64 (u64 ((Go.bits .and .u64 x1 4294967295) * (Go.bits .and .u64 y2 4294967295))), .int .u64 (shr (u64 ((Go.bits .and .u64 x1 4294967295) * (Go.bits .and .u64 y2 4294967295))) 32), .int .u64 (u64 ((u64 ((shr x1 32) * (Go.bits .and .u64 y2 4294967295))) + (shr (u64 ((Go.bits .and .u64 x1 4294967295) * (Go.bits .and .u64 y2 4294967295))) 32))), .int .u64 (u64 ((u64 ((shr x1 32) * (Go.bits .and .u64 y2 4294967295))) + (shr (u64 ((Go.bits .and .u64 x1 4294967295) * (Go.bits .and .u64 y2 4294967295))) 32))), .int .u64 (Go.bits .and .u64 (u64 ((u64 ((shr x1 32) * (Go.bits .and .u64 y2 4294967295))) + (shr (u64 ((Go.bits .and .u64 x1 4294967295) * (Go.bits .and .u64 y2 4294967295))) 32))) 4294967295), .int .u64 (u64 ((u64 ((shr x1 32) * (Go.bits .and .u64 y2 4294967295))) + (shr (u64 ((Go.bits .and .u64 x1 4294967295) * (Go.bits .and .u64 y2 4294967295))) 32))), .int .u64 (shr (u64 ((u64 ((shr x1 32) * (Go.bits .and .u64 y2 4294967295))) + (shr (u64 ((Go.bits .and .u64 x1 4294967295) * (Go.bits .and .u64 y2 4294967295))) 32))) 32), .int .u64 (Go.bits .and .u64 (u64 ((u64 ((shr x1 32) * (Go.bits .and .u64 y2 4294967295))) + (shr (u64 ((Go.bits .and .u64 x1 4294967295) * (Go.bits .and .u64 y2 4294967295))) 32))) 4294967295), .int .u64 (Go.bits .and .u64 x1 4294967295), .int .u64 (shr y2 32), .int .u64 (u64 ((Go.bits .and .u64 x1 4294967295) * (shr y2 32))), .int .u64 (u64 ((Go.bits .and .u64 (u64 ((u64 ((shr x1 32) * (Go.bits .and .u64 y2 4294967295))) + (shr (u64 ((Go.bits .and .u64 x1 4294967295) * (Go.bits .and .u64 y2 4294967295))) 32))) 4294967295) + (u64 ((Go.bits .and .u64 x1 4294967295) * (shr y2 32))))), .int .u64 (shr x1 32), .int .u64 (shr y2 32), .int .u64 (u64 ((shr x1 32) * (shr y2 32))), .int .u64 (shr (u64 ((u64 ((shr x1 32) * (Go.bits .and .u64 y2 4294967295))) + (shr (u64 ((Go.bits .and .u64 x1 4294967295) * (Go.bits .and .u64 y2 4294967295))) 32))) 32), .int .u64 (u64 ((u64 ((shr x1 32) * (shr y2 32))) + (shr (u64 ((u64 ((shr x1 32) * (Go.bits .and .u64 y2 4294967295))) + (shr (u64 ((Go.bits .and .u64 x1 4294967295) * (Go.bits .and .u64 y2 4294967295))) 32))) 32))), .int .u64 (u64 ((Go.bits .and .u64 (u64 ((u64 ((shr x1 32) * (Go.bits .and .u64 y2 4294967295))) + (shr (u64 ((Go.bits .and .u64 x1 4294967295) * (Go.bits .and .u64 y2 4294967295))) 32))) 4294967295) + (u64 ((Go.bits .and .u64 x1 4294967295) * (shr y2 32))))), .int .u64 (shr (u64 ((Go.bits .and .u64 (u64 ((u64 ((shr x1 32) * (Go.bits .and .u64 y2 4294967295))) + (shr (u64 ((Go.bits .and .u64 x1 4294967295) * (Go.bits .and .u64 y2 4294967295))) 32))) 4294967295) + (u64 ((Go.bits .and .u64 x1 4294967295) * (shr y2 32))))) 32), .int .u64 (u64 ((u64 ((u64 ((shr x1 32) * (shr y2 32))) + (shr (u64 ((u64 ((shr x1 32) * (Go.bits .and .u64 y2 4294967295))) + (shr (u64 ((Go.bits .and .u64 x1 4294967295) * (Go.bits .and .u64 y2 4294967295))) 32))) 32))) + (shr (u64 ((Go.bits .and .u64 (u64 ((u64 ((shr x1 32) * (Go.bits .and .u64 y2 4294967295))) + (shr (u64 ((Go.bits .and .u64 x1 4294967295) * (Go.bits .and .u64 y2 4294967295))) 32))) 4294967295) + (u64 ((Go.bits .and .u64 x1 4294967295) * (shr y2 32))))) 32))), .int .u64 x1, .int .u64 y2, .int .u64 (u64 (x1 * y2))], []⟩) (by kernel_rfl) ?_
  refine wpList_nil ?_
  refine hK26 _ _ ?_
  refine wp_ret ?_
  refine hret _ _ ?_
  refine ends_still (v := Value.tuple #[.int .u64 (u64 ((u64 ((u64 ((shr x1 32) * (shr y2 32))) + (shr (u64 ((u64 ((shr x1 32) * (Go.bits .and .u64 y2 4294967295))) + (shr (u64 ((Go.bits .and .u64 x1 4294967295) * (Go.bits .and .u64 y2 4294967295))) 32))) 32))) + (shr (u64 ((Go.bits .and .u64 (u64 ((u64 ((shr x1 32) * (Go.bits .and .u64 y2 4294967295))) + (shr (u64 ((Go.bits .and .u64 x1 4294967295) * (Go.bits .and .u64 y2 4294967295))) 32))) 4294967295) + (u64 ((Go.bits .and .u64 x1 4294967295) * (shr y2 32))))) 32))), .int .u64 (u64 (x1 * y2))]) (by kernel_rfl) (by kernel_rfl) ?_
  injection h with h
  injection h with h0_ h
  subst h0_ h
  exact ⟨f, rfl, FM.le.refl _, HS⟩

set_option maxRecDepth 100000 in
set_option maxHeartbeats 4000000 in
theorem num_Wide_Neg.calls (k : Nat)  (vw1 : S_Wide) {t w : World} {f : FM} {H : List Seg} (HS : St t w f (H)) (r1 : S_Wide) (h : num_Wide_Neg k vw1 = some r1) :
    Calls Try.prog 82 #[.agg #[.int .i64 vw1.Hi, .int .u64 vw1.Lo]] w (fun e w' => ∃ (g : FM), e = .returned (Value.agg #[.int .i64 r1.Hi, .int .u64 r1.Lo]) ∧ FM.le f g ∧ St t w' g (H)) := by
  unfold num_Wide_Neg at h
  refine enter Try.func82 rfl (tm := #[.agg #[.int .i64 vw1.Hi, .int .u64 vw1.Lo], undef, undef, undef, undef, undef, undef, undef, undef, undef, undef, undef, undef, undef, undef, undef, undef, undef, undef, undef, undef, undef, undef, undef, undef, undef, undef]) (by kernel_rfl) ?_
  intro B hret hnor hnp
  refine wp_seq_k (fun K2 hK3 => ?_)
  refine wp_region_lit ?_
  refine seqK rfl (does_box (cs := #[.int .i64 vw1.Hi, .int .u64 vw1.Lo]) rfl (by kernel_rfl : _ = Value.agg #[.int .i64 vw1.Hi, .int .u64 vw1.Lo]) rfl HS ?_)
  intro b4 W5 HS6
  refine seqK rfl (does_alloc (z := Value.agg #[.int .i64 0, .int .u64 0]) (cs := #[.int .i64 0, .int .u64 0]) rfl (by kernel_rfl) rfl HS6 ?_)
  intro b8 W9 HS10
  refine wpList_nil ?_
  refine hK3 _ _ ?_
  refine wp_seq_k (fun K12 hK13 => ?_)
  refine wp_region_lit ?_
  refine seqL1 (by kernel_rfl) ?_
  refine seqK rfl (does_run (run_load rfl Try.underlying34 rfl (by kernel_rfl : _ = Value.pointer (some ⟨b4, 1, none⟩)) (HS10.u1.cell 1)) ?_)
  have hq_ := guard_some h; clear h; obtain ⟨c14, h⟩ := hq_
  have c14 : 0 ≤ (Go.bits .xor .u64 IntKind.u64.max vw1.Lo) := c14
  refine seqL1 (by kernel_rfl) ?_
  refine seqK rfl (does_run (run_add64op (x := Go.bits .xor .u64 IntKind.u64.max vw1.Lo) (y := 1) (c := 0) (by kernel_rfl) Try.func92 (by kernel_rfl) (by kernel_rfl) (by kernel_rfl) (by kernel_rfl) c14 (by decide) (by decide) (by decide) W9) ?_)
  refine seqS5 (a' := ⟨#[.agg #[.int .i64 vw1.Hi, .int .u64 vw1.Lo], .pointer (some ⟨b4, 0, none⟩), .pointer (some ⟨b8, 0, none⟩), .int .u64 (((Go.bits .xor .u64 IntKind.u64.max vw1.Lo) + 1 + 0) % 18446744073709551616), .int .u64 (((Go.bits .xor .u64 IntKind.u64.max vw1.Lo) + 1 + 0) / 18446744073709551616), undef, undef, .tuple #[.int .u64 (((Go.bits .xor .u64 IntKind.u64.max vw1.Lo) + 1 + 0) % 18446744073709551616), .int .u64 (((Go.bits .xor .u64 IntKind.u64.max vw1.Lo) + 1 + 0) / 18446744073709551616)], .pointer (some ⟨b4, 1, none⟩), .int .u64 vw1.Lo, .int .u64 (Go.bits .xor .u64 IntKind.u64.max vw1.Lo), .tuple #[.int .u64 (((Go.bits .xor .u64 IntKind.u64.max vw1.Lo) + 1 + 0) % 18446744073709551616), .int .u64 (((Go.bits .xor .u64 IntKind.u64.max vw1.Lo) + 1 + 0) / 18446744073709551616)], .int .u64 (((Go.bits .xor .u64 IntKind.u64.max vw1.Lo) + 1 + 0) % 18446744073709551616), .int .u64 (((Go.bits .xor .u64 IntKind.u64.max vw1.Lo) + 1 + 0) / 18446744073709551616), undef, undef, undef, undef, undef, undef, undef, undef, undef, undef, undef, undef, undef], []⟩) (by kernel_rfl) ?_
  refine wpList_nil ?_
  refine hK13 _ _ ?_
  refine wp_seq_k (fun K15 hK16 => ?_)
  refine wp_region_lit ?_
  refine seqL1 (by kernel_rfl) ?_
  refine seqK rfl (does_run (run_load rfl Try.underlying2 rfl (by kernel_rfl : _ = Value.pointer (some ⟨b4, 0, none⟩)) (HS10.u1.cell 0)) ?_)
  have hq_ := guard_some h; clear h; obtain ⟨c17, h⟩ := hq_
  have c17 : 0 ≤ (Go.bits .xor .u64 IntKind.u64.max (u64 (vw1.Hi))) := c17
  have hq_ := guard_some h; clear h; obtain ⟨c18, h⟩ := hq_
  have c18 : 0 ≤ (((Go.bits .xor .u64 IntKind.u64.max vw1.Lo) + 1 + 0) / 18446744073709551616) := c18
  have hq_ := guard_some h; clear h; obtain ⟨c19, h⟩ := hq_
  have c19 : (((Go.bits .xor .u64 IntKind.u64.max vw1.Lo) + 1 + 0) / 18446744073709551616) ≤ 1 := c19
  refine seqL3 (by kernel_rfl) ?_
  refine seqK rfl (does_run (run_add64op (x := Go.bits .xor .u64 IntKind.u64.max (u64 (vw1.Hi))) (y := 0) (c := ((Go.bits .xor .u64 IntKind.u64.max vw1.Lo) + 1 + 0) / 18446744073709551616) (by kernel_rfl) Try.func92 (by kernel_rfl) (by kernel_rfl) (by kernel_rfl) (by kernel_rfl) c17 (by decide) c18 c19 W9) ?_)
  refine seqS5 (a' := ⟨#[.agg #[.int .i64 vw1.Hi, .int .u64 vw1.Lo], .pointer (some ⟨b4, 0, none⟩), .pointer (some ⟨b8, 0, none⟩), .int .u64 (((Go.bits .xor .u64 IntKind.u64.max vw1.Lo) + 1 + 0) % 18446744073709551616), .int .u64 (((Go.bits .xor .u64 IntKind.u64.max vw1.Lo) + 1 + 0) / 18446744073709551616), .int .u64 (((Go.bits .xor .u64 IntKind.u64.max (u64 (vw1.Hi))) + 0 + (((Go.bits .xor .u64 IntKind.u64.max vw1.Lo) + 1 + 0) / 18446744073709551616)) % 18446744073709551616), .int .u64 (((Go.bits .xor .u64 IntKind.u64.max (u64 (vw1.Hi))) + 0 + (((Go.bits .xor .u64 IntKind.u64.max vw1.Lo) + 1 + 0) / 18446744073709551616)) / 18446744073709551616), .tuple #[.int .u64 (((Go.bits .xor .u64 IntKind.u64.max vw1.Lo) + 1 + 0) % 18446744073709551616), .int .u64 (((Go.bits .xor .u64 IntKind.u64.max vw1.Lo) + 1 + 0) / 18446744073709551616)], .pointer (some ⟨b4, 1, none⟩), .int .u64 vw1.Lo, .int .u64 (Go.bits .xor .u64 IntKind.u64.max vw1.Lo), .tuple #[.int .u64 (((Go.bits .xor .u64 IntKind.u64.max vw1.Lo) + 1 + 0) % 18446744073709551616), .int .u64 (((Go.bits .xor .u64 IntKind.u64.max vw1.Lo) + 1 + 0) / 18446744073709551616)], .int .u64 (((Go.bits .xor .u64 IntKind.u64.max vw1.Lo) + 1 + 0) % 18446744073709551616), .int .u64 (((Go.bits .xor .u64 IntKind.u64.max vw1.Lo) + 1 + 0) / 18446744073709551616), .tuple #[.int .u64 (((Go.bits .xor .u64 IntKind.u64.max (u64 (vw1.Hi))) + 0 + (((Go.bits .xor .u64 IntKind.u64.max vw1.Lo) + 1 + 0) / 18446744073709551616)) % 18446744073709551616), .int .u64 (((Go.bits .xor .u64 IntKind.u64.max (u64 (vw1.Hi))) + 0 + (((Go.bits .xor .u64 IntKind.u64.max vw1.Lo) + 1 + 0) / 18446744073709551616)) / 18446744073709551616)], .pointer (some ⟨b4, 0, none⟩), .int .i64 vw1.Hi, .int .u64 (u64 (vw1.Hi)), .int .u64 (Go.bits .xor .u64 IntKind.u64.max (u64 (vw1.Hi))), .int .u64 (((Go.bits .xor .u64 IntKind.u64.max vw1.Lo) + 1 + 0) / 18446744073709551616), .tuple #[.int .u64 (((Go.bits .xor .u64 IntKind.u64.max (u64 (vw1.Hi))) + 0 + (((Go.bits .xor .u64 IntKind.u64.max vw1.Lo) + 1 + 0) / 18446744073709551616)) % 18446744073709551616), .int .u64 (((Go.bits .xor .u64 IntKind.u64.max (u64 (vw1.Hi))) + 0 + (((Go.bits .xor .u64 IntKind.u64.max vw1.Lo) + 1 + 0) / 18446744073709551616)) / 18446744073709551616)], .int .u64 (((Go.bits .xor .u64 IntKind.u64.max (u64 (vw1.Hi))) + 0 + (((Go.bits .xor .u64 IntKind.u64.max vw1.Lo) + 1 + 0) / 18446744073709551616)) % 18446744073709551616), .int .u64 (((Go.bits .xor .u64 IntKind.u64.max (u64 (vw1.Hi))) + 0 + (((Go.bits .xor .u64 IntKind.u64.max vw1.Lo) + 1 + 0) / 18446744073709551616)) / 18446744073709551616), undef, undef, undef, undef], []⟩) (by kernel_rfl) ?_
  refine wpList_nil ?_
  refine hK16 _ _ ?_
  refine wp_seq_k (fun K20 hK21 => ?_)
  refine wp_region_lit ?_
  refine seqL4 (by kernel_rfl) ?_
  refine seqK rfl (does_store (n := 2) (vs := [.int .i64 (w64 (((Go.bits .xor .u64 IntKind.u64.max (u64 (vw1.Hi))) + 0 + (((Go.bits .xor .u64 IntKind.u64.max vw1.Lo) + 1 + 0) / 18446744073709551616)) % 18446744073709551616)), .int .u64 (((Go.bits .xor .u64 IntKind.u64.max vw1.Lo) + 1 + 0) % 18446744073709551616)]) (cs' := #[.int .i64 (w64 (((Go.bits .xor .u64 IntKind.u64.max (u64 (vw1.Hi))) + 0 + (((Go.bits .xor .u64 IntKind.u64.max vw1.Lo) + 1 + 0) / 18446744073709551616)) % 18446744073709551616)), .int .u64 (((Go.bits .xor .u64 IntKind.u64.max vw1.Lo) + 1 + 0) % 18446744073709551616)]) rfl (by kernel_rfl) (by kernel_rfl : _ = Value.pointer (some ⟨b8, 0, none⟩)) (by kernel_rfl : _ = Value.agg #[.int .i64 (w64 (((Go.bits .xor .u64 IntKind.u64.max (u64 (vw1.Hi))) + 0 + (((Go.bits .xor .u64 IntKind.u64.max vw1.Lo) + 1 + 0) / 18446744073709551616)) % 18446744073709551616)), .int .u64 (((Go.bits .xor .u64 IntKind.u64.max vw1.Lo) + 1 + 0) % 18446744073709551616)]) rfl rfl (by intro u_ hu_; simp only [List.mem_cons, List.not_mem_nil, or_false] at hu_; rcases hu_ with rfl | rfl <;> rfl) HS10 (Nat.le_of_ble_eq_true rfl) (by kernel_rfl) ?_)
  intro W22 HS23
  refine wpList_nil ?_
  refine hK21 _ _ ?_
  refine wp_ret ?_
  refine hret _ _ ?_
  refine ends (v := Value.agg #[.int .i64 (w64 (((Go.bits .xor .u64 IntKind.u64.max (u64 (vw1.Hi))) + 0 + (((Go.bits .xor .u64 IntKind.u64.max vw1.Lo) + 1 + 0) / 18446744073709551616)) % 18446744073709551616)), .int .u64 (((Go.bits .xor .u64 IntKind.u64.max vw1.Lo) + 1 + 0) % 18446744073709551616)]) (results1 (q1 := .cell 2 94) (by kernel_rfl) (resN (n := 2) (cs := [.int .i64 (w64 (((Go.bits .xor .u64 IntKind.u64.max (u64 (vw1.Hi))) + 0 + (((Go.bits .xor .u64 IntKind.u64.max vw1.Lo) + 1 + 0) / 18446744073709551616)) % 18446744073709551616)), .int .u64 (((Go.bits .xor .u64 IntKind.u64.max vw1.Lo) + 1 + 0) % 18446744073709551616)]) (by kernel_rfl : _ = Value.pointer (some ⟨b8, 0, none⟩)) Try.underlying94 rfl (by kernel_rfl) rfl (HS23.cells 0 2 _ rfl))) (by kernel_rfl) ?_
  have HS24 := HS23.drop
  have HS25 := HS24.drop
  injection h with h
  subst h
  exact ⟨f, rfl, FM.le.refl _, HS25⟩

set_option maxRecDepth 100000 in
set_option maxHeartbeats 4000000 in
theorem num_Product.calls (k : Nat)  (a1 : Int) (b2 : Int) {t w : World} {f : FM} {H : List Seg} (HS : St t w f (H)) (r1 : S_Wide) (h : num_Product k a1 b2 = some r1) :
    Calls Try.prog 64 #[.int .i64 a1, .int .i64 b2] w (fun e w' => ∃ (g : FM), e = .returned (Value.agg #[.int .i64 r1.Hi, .int .u64 r1.Lo]) ∧ FM.le f g ∧ St t w' g (H)) := by
  unfold num_Product at h
  refine enter Try.func64 rfl (tm := #[.int .i64 a1, .int .i64 b2, undef, undef, undef, undef, undef, undef, undef, undef, undef, undef, undef, undef, undef, undef, undef, undef, undef, undef, undef, undef, undef, undef, undef, undef, undef, undef]) (by kernel_rfl) ?_
  intro B hret hnor hnp
  refine wp_seq_k (fun K3 hK4 => ?_)
  refine wp_region_lit ?_
  refine seqK rfl (does_alloc (z := Value.agg #[.int .i64 0, .int .u64 0]) (cs := #[.int .i64 0, .int .u64 0]) rfl (by kernel_rfl) rfl HS ?_)
  intro b5 W6 HS7
  refine wpList_nil ?_
  refine hK4 _ _ ?_
  refine wp_seq_k (fun K9 hK10 => ?_)
  refine wp_region_lit ?_
  have hq_ := bind_some h; clear h; obtain ⟨vt11, hc12, h⟩ := hq_
  refine seqL1 (by kernel_rfl) ?_
  refine seqK rfl (does_call (f := 81) (args := #[.int .i64 a1]) (by kernel_rfl) (num_size.calls k a1 HS7 vt11 hc12) ?_)
  rintro _ W15 ⟨f13, rfl, L14, HS16⟩
  refine ⟨_, rfl, ?_⟩
  have hq_ := bind_some h; clear h; obtain ⟨vt17, hc18, h⟩ := hq_
  refine seqL1 (by kernel_rfl) ?_
  refine seqK rfl (does_call (f := 81) (args := #[.int .i64 b2]) (by kernel_rfl) (num_size.calls k b2 HS16 vt17 hc18) ?_)
  rintro _ W21 ⟨f19, rfl, L20, HS22⟩
  refine ⟨_, rfl, ?_⟩
  have hq_ := bind_some h; clear h; obtain ⟨⟨vt23, vt24⟩, hc25, h⟩ := hq_
  refine seqK rfl (does_call (f := 58) (args := #[.int .u64 vt11, .int .u64 vt17]) (by kernel_rfl) (bits_Mul64.calls k vt11 vt17 HS22 vt23 vt24 hc25) ?_)
  rintro _ W28 ⟨f26, rfl, L27, HS29⟩
  refine ⟨_, rfl, ?_⟩
  refine seqS5 (a' := ⟨#[.int .i64 a1, .int .i64 b2, undef, undef, .pointer (some ⟨b5, 0, none⟩), .int .u64 vt23, .int .u64 vt24, undef, .tuple #[.int .u64 vt23, .int .u64 vt24], .int .i64 a1, .int .u64 vt11, .int .i64 b2, .int .u64 vt17, .tuple #[.int .u64 vt23, .int .u64 vt24], .int .u64 vt23, .int .u64 vt24, undef, undef, undef, undef, undef, undef, undef, undef, undef, undef, undef, undef], []⟩) (by kernel_rfl) ?_
  refine wpList_nil ?_
  refine hK10 _ _ ?_
  refine wp_seq_k (fun K30 hK31 => ?_)
  refine wp_region_lit ?_
  refine seqL4 (by kernel_rfl) ?_
  refine seqK rfl (does_alloc (z := Value.agg #[.int .i64 0, .int .u64 0]) (cs := #[.int .i64 0, .int .u64 0]) rfl (by kernel_rfl) rfl HS29 ?_)
  intro b32 W33 HS34
  refine seqK rfl (does_store (n := 2) (vs := [.int .i64 (w64 (vt23)), .int .u64 vt24]) (cs' := #[.int .i64 (w64 (vt23)), .int .u64 vt24]) rfl (by kernel_rfl) (by kernel_rfl : _ = Value.pointer (some ⟨b32, 0, none⟩)) (by kernel_rfl : _ = Value.agg #[.int .i64 (w64 (vt23)), .int .u64 vt24]) rfl rfl (by intro u_ hu_; simp only [List.mem_cons, List.not_mem_nil, or_false] at hu_; rcases hu_ with rfl | rfl <;> rfl) HS34 (Nat.le_of_ble_eq_true rfl) (by kernel_rfl) ?_)
  intro W36 HS37
  refine wpList_nil ?_
  refine hK31 _ _ ?_
  refine wp_seq_k (fun K38 hK39 => ?_)
  refine wp_seq_k (fun K40 hK41 => ?_)
  refine wp_region_lit ?_
  refine seqS5 (a' := ⟨#[.int .i64 a1, .int .i64 b2, undef, undef, .pointer (some ⟨b5, 0, none⟩), .int .u64 vt23, .int .u64 vt24, .pointer (some ⟨b32, 0, none⟩), .tuple #[.int .u64 vt23, .int .u64 vt24], .int .i64 a1, .int .u64 vt11, .int .i64 b2, .int .u64 vt17, .tuple #[.int .u64 vt23, .int .u64 vt24], .int .u64 vt23, .int .u64 vt24, .int .u64 vt23, .int .i64 (w64 (vt23)), .int .u64 vt24, .agg #[.int .i64 (w64 (vt23)), .int .u64 vt24], .int .i64 a1, .bool (decide (a1 < 0)), .int .i64 b2, .bool (decide (b2 < 0)), .bool ((decide (a1 < 0)) != (decide (b2 < 0))), undef, undef, undef], []⟩) (by kernel_rfl) ?_
  refine wpList_nil ?_
  refine hK41 _ _ ?_
  have hq_ := ite_some h; clear h; rcases hq_ with ⟨c43, h⟩ | ⟨c43, h⟩
  · have c43 : ((decide (a1 < 0)) != (decide (b2 < 0))) = true := c43
    refine wpRwI 24 (x := ((decide (a1 < 0)) != (decide (b2 < 0)))) (v := true) (by kernel_rfl) c43 ?_
    refine condT (by kernel_rfl) ?_
    refine wp_seq_k (fun K44 hK45 => ?_)
    refine wp_region_lit ?_
    refine seqK rfl (does_run (run_loadN (n := 2) rfl Try.underlying94 rfl (by kernel_rfl) (by kernel_rfl : _ = Value.pointer (some ⟨b32, 0, none⟩)) (cs := [.int .i64 (w64 (vt23)), .int .u64 vt24]) rfl (HS37.cells 0 2 _ rfl)) ?_)
    have hq_ := bind_some h; clear h; obtain ⟨vt46, hc47, h⟩ := hq_
    refine seqK rfl (does_call (f := 82) (args := #[.agg #[.int .i64 (w64 (vt23)), .int .u64 vt24]]) (by kernel_rfl) (num_Wide_Neg.calls k (⟨w64 (vt23), vt24⟩ : S_Wide) HS37 vt46 hc47) ?_)
    rintro _ W50 ⟨f48, rfl, L49, HS51⟩
    refine ⟨_, rfl, ?_⟩
    have HS52 := HS51.u1
    refine seqK rfl (does_store (n := 2) (vs := [.int .i64 vt46.Hi, .int .u64 vt46.Lo]) (cs' := #[.int .i64 vt46.Hi, .int .u64 vt46.Lo]) rfl (by kernel_rfl) (by kernel_rfl : _ = Value.pointer (some ⟨b5, 0, none⟩)) (by kernel_rfl : _ = Value.agg #[.int .i64 vt46.Hi, .int .u64 vt46.Lo]) rfl rfl (by intro u_ hu_; simp only [List.mem_cons, List.not_mem_nil, or_false] at hu_; rcases hu_ with rfl | rfl <;> rfl) HS52 (Nat.le_of_ble_eq_true rfl) (by kernel_rfl) ?_)
    intro W53 HS54
    refine wpList_nil ?_
    refine hK45 _ _ ?_
    refine wp_ret ?_
    refine hret _ _ ?_
    refine ends (v := Value.agg #[.int .i64 vt46.Hi, .int .u64 vt46.Lo]) (results1 (q1 := .cell 4 94) (by kernel_rfl) (resN (n := 2) (cs := [.int .i64 vt46.Hi, .int .u64 vt46.Lo]) (by kernel_rfl : _ = Value.pointer (some ⟨b5, 0, none⟩)) Try.underlying94 rfl (by kernel_rfl) rfl (HS54.cells 0 2 _ rfl))) (by kernel_rfl) ?_
    have HS60 := HS54.drop
    have HS61 := HS60.drop
    injection h with h
    subst h
    exact ⟨f48, rfl, (L14.trans (L20.trans (L27.trans L49))), HS61⟩
  · have c43 : ¬ (((decide (a1 < 0)) != (decide (b2 < 0))) = true) := c43
    refine wpRwI 24 (x := ((decide (a1 < 0)) != (decide (b2 < 0)))) (v := false) (by kernel_rfl) (Bool.eq_false_iff.mpr c43) ?_
    refine condF (by kernel_rfl) ?_
    refine wp_skip ?_
    refine hK39 _ _ ?_
    refine wp_seq_k (fun K55 hK56 => ?_)
    refine wp_region_lit ?_
    refine seqK rfl (does_run (run_loadN (n := 2) rfl Try.underlying94 rfl (by kernel_rfl) (by kernel_rfl : _ = Value.pointer (some ⟨b32, 0, none⟩)) (cs := [.int .i64 (w64 (vt23)), .int .u64 vt24]) rfl (HS37.cells 0 2 _ rfl)) ?_)
    have HS57 := HS37.u1
    refine seqK rfl (does_store (n := 2) (vs := [.int .i64 (w64 (vt23)), .int .u64 vt24]) (cs' := #[.int .i64 (w64 (vt23)), .int .u64 vt24]) rfl (by kernel_rfl) (by kernel_rfl : _ = Value.pointer (some ⟨b5, 0, none⟩)) (by kernel_rfl : _ = Value.agg #[.int .i64 (w64 (vt23)), .int .u64 vt24]) rfl rfl (by intro u_ hu_; simp only [List.mem_cons, List.not_mem_nil, or_false] at hu_; rcases hu_ with rfl | rfl <;> rfl) HS57 (Nat.le_of_ble_eq_true rfl) (by kernel_rfl) ?_)
    intro W58 HS59
    refine wpList_nil ?_
    refine hK56 _ _ ?_
    refine wp_ret ?_
    refine hret _ _ ?_
    refine ends (v := Value.agg #[.int .i64 (w64 (vt23)), .int .u64 vt24]) (results1 (q1 := .cell 4 94) (by kernel_rfl) (resN (n := 2) (cs := [.int .i64 (w64 (vt23)), .int .u64 vt24]) (by kernel_rfl : _ = Value.pointer (some ⟨b5, 0, none⟩)) Try.underlying94 rfl (by kernel_rfl) rfl (HS59.cells 0 2 _ rfl))) (by kernel_rfl) ?_
    have HS62 := HS59.drop
    have HS63 := HS62.drop
    injection h with h
    subst h
    exact ⟨f26, rfl, (L14.trans (L20.trans L27)), HS63⟩

set_option maxRecDepth 100000 in
set_option maxHeartbeats 4000000 in
theorem bits_Len64.calls (k : Nat)  (x1 : Int) {t w : World} {f : FM} {H : List Seg} (HS : St t w f (H)) (r1 : Int) (h : bits_Len64 k x1 = some r1) :
    Calls Try.prog 76 #[.int .u64 x1] w (fun e w' => ∃ (g : FM), e = .returned (Value.int .i64 r1) ∧ FM.le f g ∧ St t w' g (H)) := by
  unfold bits_Len64 at h
  refine enter Try.func76 rfl (tm := #[.int .u64 x1, undef, undef, undef, undef, undef, undef, undef, undef, undef, undef, undef, undef, undef, undef, undef, undef, undef, undef, undef, undef, undef, undef, undef, undef]) (by kernel_rfl) ?_
  intro B hret hnor hnp
  refine wp_seq_k (fun K2 hK3 => ?_)
  refine wp_region_lit ?_
  refine seqS1 (a' := ⟨#[.int .u64 x1, undef, .int .i64 0, undef, undef, undef, undef, undef, undef, undef, undef, undef, undef, undef, undef, undef, undef, undef, undef, undef, undef, undef, undef, undef, undef], []⟩) (by kernel_rfl) ?_
  refine wpList_nil ?_
  refine hK3 _ _ ?_
  refine wp_seq_k (fun K4 hK5 => ?_)
  refine wp_seq_k (fun K6 hK7 => ?_)
  refine wp_region_lit ?_
  refine seqS2 (a' := ⟨#[.int .u64 x1, undef, .int .i64 0, .int .u64 x1, .bool (decide (x1 ≥ 4294967296)), undef, undef, undef, undef, undef, undef, undef, undef, undef, undef, undef, undef, undef, undef, undef, undef, undef, undef, undef, undef], []⟩) (by kernel_rfl) ?_
  refine wpList_nil ?_
  refine hK7 _ _ ?_
  have hq_ := bind_some h; clear h; obtain ⟨v8, hv19, h⟩ := hq_
  have J20 : ∀ (f12 : FM) (x17 : Int) (n18 : Int) (j16 : Nat → Value) (W14 : World) (a_ : Act), FM.le f f12 → some ((x17, n18)) = some v8 → St t W14 f12 (H) → a_ = ⟨#[.int .u64 x17, undef, .int .i64 n18, .int .u64 x1, (j16 0), (j16 1), (j16 2), undef, undef, undef, undef, undef, undef, undef, undef, undef, undef, undef, undef, undef, undef, undef, undef, undef, undef], []⟩ → K4 a_ W14 := by
    intro f12 x17 n18 j16 W14 a_ L13 hj21 HS15  hfr_; subst hfr_
    injection hj21 with hj21; subst hj21; try dsimp only at h
    refine hK5 _ _ ?_
    refine wp_seq_k (fun K22 hK23 => ?_)
    refine wp_seq_k (fun K24 hK25 => ?_)
    refine wp_region_lit ?_
    refine seqS2 (a' := ⟨#[.int .u64 x17, undef, .int .i64 n18, .int .u64 x1, (j16 0), (j16 1), (j16 2), .int .u64 x17, .bool (decide (x17 ≥ 65536)), undef, undef, undef, undef, undef, undef, undef, undef, undef, undef, undef, undef, undef, undef, undef, undef], []⟩) (by kernel_rfl) ?_
    refine wpList_nil ?_
    refine hK25 _ _ ?_
    have hq_ := bind_some h; clear h; obtain ⟨v26, hv37, h⟩ := hq_
    have J38 : ∀ (f30 : FM) (x35 : Int) (n36 : Int) (j34 : Nat → Value) (W32 : World) (a_ : Act), FM.le f12 f30 → some ((x35, n36)) = some v26 → St t W32 f30 (H) → a_ = ⟨#[.int .u64 x35, undef, .int .i64 n36, .int .u64 x1, (j16 0), (j16 1), (j16 2), .int .u64 x17, (j34 0), (j34 1), (j34 2), (j34 3), (j34 4), undef, undef, undef, undef, undef, undef, undef, undef, undef, undef, undef, undef], []⟩ → K22 a_ W32 := by
      intro f30 x35 n36 j34 W32 a_ L31 hj39 HS33  hfr_; subst hfr_
      injection hj39 with hj39; subst hj39; try dsimp only at h
      refine hK23 _ _ ?_
      refine wp_seq_k (fun K40 hK41 => ?_)
      refine wp_seq_k (fun K42 hK43 => ?_)
      refine wp_region_lit ?_
      refine seqS2 (a' := ⟨#[.int .u64 x35, undef, .int .i64 n36, .int .u64 x1, (j16 0), (j16 1), (j16 2), .int .u64 x17, (j34 0), (j34 1), (j34 2), (j34 3), (j34 4), .int .u64 x35, .bool (decide (x35 ≥ 256)), undef, undef, undef, undef, undef, undef, undef, undef, undef, undef], []⟩) (by kernel_rfl) ?_
      refine wpList_nil ?_
      refine hK43 _ _ ?_
      have hq_ := ite_some h; clear h; rcases hq_ with ⟨c45, h⟩ | ⟨c45, h⟩
      · have c45 : x35 ≥ 256 := c45
        refine wpRwI 14 (x := (decide (x35 ≥ 256))) (v := true) (by kernel_rfl) (decide_eq_true c45) ?_
        refine condT (by kernel_rfl) ?_
        refine wp_seq_k (fun K46 hK47 => ?_)
        refine wp_region_lit ?_
        refine seqS3 (a' := ⟨#[.int .u64 (shr x35 8), undef, .int .i64 n36, .int .u64 x1, (j16 0), (j16 1), (j16 2), .int .u64 x17, (j34 0), (j34 1), (j34 2), (j34 3), (j34 4), .int .u64 x35, .bool true, .int .u64 x35, .int .u64 (shr x35 8), undef, undef, undef, undef, undef, undef, undef, undef], []⟩) (by kernel_rfl) ?_
        refine wpList_nil ?_
        refine hK47 _ _ ?_
        refine wp_region_lit ?_
        refine seqS3 (a' := ⟨#[.int .u64 (shr x35 8), undef, .int .i64 (w64 (n36 + 8)), .int .u64 x1, (j16 0), (j16 1), (j16 2), .int .u64 x17, (j34 0), (j34 1), (j34 2), (j34 3), (j34 4), .int .u64 x35, .bool true, .int .u64 x35, .int .u64 (shr x35 8), .int .i64 n36, .int .i64 (w64 (n36 + 8)), undef, undef, undef, undef, undef, undef], []⟩) (by kernel_rfl) ?_
        refine wpList_nil ?_
        refine hK41 _ _ ?_
        refine wp_seq_k (fun K48 hK49 => ?_)
        refine wp_region_lit ?_
        have hq_ := guard_some h; clear h; obtain ⟨c50, h⟩ := hq_
        have c50 : 0 ≤ (u8 (shr x35 8)) := c50
        have hq_ := guard_some h; clear h; obtain ⟨c51, h⟩ := hq_
        have c51 : (u8 (shr x35 8)) < (str0.size : Int) := c51
        refine seqL3 (by kernel_rfl) ?_
        refine seqK rfl (does_run (run_byte rfl Try.underlying9 (by kernel_rfl : _ = Value.string str0) (by kernel_rfl : _ = Value.int .u8 (u8 (shr x35 8))) c50 c51 W32) ?_)
        refine seqS3 (a' := ⟨#[.int .u64 (shr x35 8), undef, .int .i64 (w64 ((w64 (n36 + 8)) + (w64 ((bt str0 (u8 (shr x35 8))))))), .int .u64 x1, (j16 0), (j16 1), (j16 2), .int .u64 x17, (j34 0), (j34 1), (j34 2), (j34 3), (j34 4), .int .u64 x35, .bool true, .int .u64 x35, .int .u64 (shr x35 8), .int .i64 n36, .int .i64 (w64 (n36 + 8)), .int .i64 (w64 (n36 + 8)), .int .u64 (shr x35 8), .int .u8 (u8 (shr x35 8)), .int .u8 (bt str0 (u8 (shr x35 8))), .int .i64 (w64 ((bt str0 (u8 (shr x35 8))))), .int .i64 (w64 ((w64 (n36 + 8)) + (w64 ((bt str0 (u8 (shr x35 8)))))))], []⟩) (by kernel_rfl) ?_
        refine wpList_nil ?_
        refine hK49 _ _ ?_
        refine wp_ret ?_
        refine hret _ _ ?_
        refine ends_still (v := Value.int .i64 (w64 ((w64 (n36 + 8)) + (w64 ((bt str0 (u8 (shr x35 8)))))))) (by kernel_rfl) (by kernel_rfl) ?_
        injection h with h
        subst h
        exact ⟨f30, rfl, (L13.trans L31), HS33⟩
      · have c45 : ¬ (x35 ≥ 256) := c45
        refine wpRwI 14 (x := (decide (x35 ≥ 256))) (v := false) (by kernel_rfl) (decide_eq_false c45) ?_
        refine condF (by kernel_rfl) ?_
        refine wp_skip ?_
        refine hK41 _ _ ?_
        refine wp_seq_k (fun K52 hK53 => ?_)
        refine wp_region_lit ?_
        have hq_ := guard_some h; clear h; obtain ⟨c54, h⟩ := hq_
        have c54 : 0 ≤ (u8 (x35)) := c54
        have hq_ := guard_some h; clear h; obtain ⟨c55, h⟩ := hq_
        have c55 : (u8 (x35)) < (str0.size : Int) := c55
        refine seqL3 (by kernel_rfl) ?_
        refine seqK rfl (does_run (run_byte rfl Try.underlying9 (by kernel_rfl : _ = Value.string str0) (by kernel_rfl : _ = Value.int .u8 (u8 (x35))) c54 c55 W32) ?_)
        refine seqS3 (a' := ⟨#[.int .u64 x35, undef, .int .i64 (w64 (n36 + (w64 ((bt str0 (u8 (x35))))))), .int .u64 x1, (j16 0), (j16 1), (j16 2), .int .u64 x17, (j34 0), (j34 1), (j34 2), (j34 3), (j34 4), .int .u64 x35, .bool false, undef, undef, undef, undef, .int .i64 n36, .int .u64 x35, .int .u8 (u8 (x35)), .int .u8 (bt str0 (u8 (x35))), .int .i64 (w64 ((bt str0 (u8 (x35))))), .int .i64 (w64 (n36 + (w64 ((bt str0 (u8 (x35)))))))], []⟩) (by kernel_rfl) ?_
        refine wpList_nil ?_
        refine hK53 _ _ ?_
        refine wp_ret ?_
        refine hret _ _ ?_
        refine ends_still (v := Value.int .i64 (w64 (n36 + (w64 ((bt str0 (u8 (x35)))))))) (by kernel_rfl) (by kernel_rfl) ?_
        injection h with h
        subst h
        exact ⟨f30, rfl, (L13.trans L31), HS33⟩
    clear h; have h := hv37; clear hv37
    have hq_ := ite_some h; clear h; rcases hq_ with ⟨c27, h⟩ | ⟨c27, h⟩
    · have c27 : x17 ≥ 65536 := c27
      refine wpRwI 8 (x := (decide (x17 ≥ 65536))) (v := true) (by kernel_rfl) (decide_eq_true c27) ?_
      refine condT (by kernel_rfl) ?_
      refine wp_seq_k (fun K28 hK29 => ?_)
      refine wp_region_lit ?_
      refine seqS3 (a' := ⟨#[.int .u64 (shr x17 16), undef, .int .i64 n18, .int .u64 x1, (j16 0), (j16 1), (j16 2), .int .u64 x17, .bool true, .int .u64 x17, .int .u64 (shr x17 16), undef, undef, undef, undef, undef, undef, undef, undef, undef, undef, undef, undef, undef, undef], []⟩) (by kernel_rfl) ?_
      refine wpList_nil ?_
      refine hK29 _ _ ?_
      refine wp_region_lit ?_
      refine seqS3 (a' := ⟨#[.int .u64 (shr x17 16), undef, .int .i64 (w64 (n18 + 16)), .int .u64 x1, (j16 0), (j16 1), (j16 2), .int .u64 x17, .bool true, .int .u64 x17, .int .u64 (shr x17 16), .int .i64 n18, .int .i64 (w64 (n18 + 16)), undef, undef, undef, undef, undef, undef, undef, undef, undef, undef, undef, undef], []⟩) (by kernel_rfl) ?_
      refine wpList_nil ?_
      exact J38 f12 (shr x17 16) (w64 (n18 + 16)) (fun i_ => [Value.bool true, Value.int .u64 x17, Value.int .u64 (shr x17 16), Value.int .i64 n18, Value.int .i64 (w64 (n18 + 16))].getD i_ undef) W14 _ (FM.le.refl _) h HS15 (by kernel_rfl)
    · have c27 : ¬ (x17 ≥ 65536) := c27
      refine wpRwI 8 (x := (decide (x17 ≥ 65536))) (v := false) (by kernel_rfl) (decide_eq_false c27) ?_
      refine condF (by kernel_rfl) ?_
      refine wp_skip ?_
      exact J38 f12 x17 n18 (fun i_ => [Value.bool false, undef, undef, undef, undef].getD i_ undef) W14 _ (FM.le.refl _) h HS15 (by kernel_rfl)
  clear h; have h := hv19; clear hv19
  have hq_ := ite_some h; clear h; rcases hq_ with ⟨c9, h⟩ | ⟨c9, h⟩
  · have c9 : x1 ≥ 4294967296 := c9
    refine wpRwI 4 (x := (decide (x1 ≥ 4294967296))) (v := true) (by kernel_rfl) (decide_eq_true c9) ?_
    refine condT (by kernel_rfl) ?_
    refine wp_seq_k (fun K10 hK11 => ?_)
    refine wp_region_lit ?_
    refine seqS3 (a' := ⟨#[.int .u64 (shr x1 32), undef, .int .i64 0, .int .u64 x1, .bool true, .int .u64 x1, .int .u64 (shr x1 32), undef, undef, undef, undef, undef, undef, undef, undef, undef, undef, undef, undef, undef, undef, undef, undef, undef, undef], []⟩) (by kernel_rfl) ?_
    refine wpList_nil ?_
    refine hK11 _ _ ?_
    refine wp_region_lit ?_
    refine seqS1 (a' := ⟨#[.int .u64 (shr x1 32), undef, .int .i64 32, .int .u64 x1, .bool true, .int .u64 x1, .int .u64 (shr x1 32), undef, undef, undef, undef, undef, undef, undef, undef, undef, undef, undef, undef, undef, undef, undef, undef, undef, undef], []⟩) (by kernel_rfl) ?_
    refine wpList_nil ?_
    exact J20 f (shr x1 32) 32 (fun i_ => [Value.bool true, Value.int .u64 x1, Value.int .u64 (shr x1 32)].getD i_ undef) w _ (FM.le.refl _) h HS (by kernel_rfl)
  · have c9 : ¬ (x1 ≥ 4294967296) := c9
    refine wpRwI 4 (x := (decide (x1 ≥ 4294967296))) (v := false) (by kernel_rfl) (decide_eq_false c9) ?_
    refine condF (by kernel_rfl) ?_
    refine wp_skip ?_
    exact J20 f x1 0 (fun i_ => [Value.bool false, undef, undef].getD i_ undef) w _ (FM.le.refl _) h HS (by kernel_rfl)

set_option maxRecDepth 100000 in
set_option maxHeartbeats 4000000 in
theorem bits_LeadingZeros64.calls (k : Nat)  (x1 : Int) {t w : World} {f : FM} {H : List Seg} (HS : St t w f (H)) (r1 : Int) (h : bits_LeadingZeros64 k x1 = some r1) :
    Calls Try.prog 93 #[.int .u64 x1] w (fun e w' => ∃ (g : FM), e = .returned (Value.int .i64 r1) ∧ FM.le f g ∧ St t w' g (H)) := by
  unfold bits_LeadingZeros64 at h
  refine enter Try.func93 rfl (tm := #[.int .u64 x1, undef, undef, undef, undef, undef]) (by kernel_rfl) ?_
  intro B hret hnor hnp
  refine wp_seq_k (fun K2 hK3 => ?_)
  refine wp_region_lit ?_
  refine seqS1 (a' := ⟨#[.int .u64 x1, undef, .int .i64 0, undef, undef, undef], []⟩) (by kernel_rfl) ?_
  refine wpList_nil ?_
  refine hK3 _ _ ?_
  refine wp_seq_k (fun K4 hK5 => ?_)
  refine wp_region_lit ?_
  have hq_ := bind_some h; clear h; obtain ⟨vt6, hc7, h⟩ := hq_
  refine seqL1 (by kernel_rfl) ?_
  refine seqK rfl (does_call (f := 76) (args := #[.int .u64 x1]) (by kernel_rfl) (bits_Len64.calls k x1 HS vt6 hc7) ?_)
  rintro _ W10 ⟨f8, rfl, L9, HS11⟩
  refine ⟨_, rfl, ?_⟩
  refine seqS2 (a' := ⟨#[.int .u64 x1, undef, .int .i64 (w64 (64 - vt6)), .int .u64 x1, .int .i64 vt6, .int .i64 (w64 (64 - vt6))], []⟩) (by kernel_rfl) ?_
  refine wpList_nil ?_
  refine hK5 _ _ ?_
  refine wp_ret ?_
  refine hret _ _ ?_
  refine ends_still (v := Value.int .i64 (w64 (64 - vt6))) (by kernel_rfl) (by kernel_rfl) ?_
  injection h with h
  subst h
  exact ⟨f8, rfl, L9, HS11⟩

end Go.Sp.X5
