import Derived.Test.YtdogeeomknanpaaProg
import Derived.Test.YtdogeeomknanpaaSpThree
import Derived.Test.YtdogeeomknanpaaFC5
import Derived.Test.YtdogeeomknanpaaKC5n0
import Derived.Test.YtdogeeomknanpaaKC5n1
import Derived.Test.YtdogeeomknanpaaKC5n2
import Derived.Test.YtdogeeomknanpaaKC5n3
namespace Go.Sp.C5
open Go Go.Sp Go.Proofs
set_option linter.unusedVariables false
attribute [local irreducible] wpList AnyL Code.wp Calls Does
set_option maxRecDepth 100000 in
set_option maxHeartbeats 4000000 in
theorem calib_Light.calls (k : Nat)  (held1 : S_Bound) (dark2 : S_Bound) (flat3 : S_Bound) (beats4 : Int) {t w : World} {f : FM} {H : List Seg} (HS : St t w f (H)) (r1 : S_Bound) (h : calib_Light k held1 dark2 flat3 beats4 = some r1) :
    Calls Try.prog 26 #[.agg #[.int .i64 held1.Lo, .int .i64 held1.Hi, .bool held1.Unknown], .agg #[.int .i64 dark2.Lo, .int .i64 dark2.Hi, .bool dark2.Unknown], .agg #[.int .i64 flat3.Lo, .int .i64 flat3.Hi, .bool flat3.Unknown], .int .i64 beats4] w (fun e w' => ∃ (g : FM), e = .returned (Value.agg #[.int .i64 r1.Lo, .int .i64 r1.Hi, .bool r1.Unknown]) ∧ FM.le f g ∧ St t w' g (H)) := by
  unfold calib_Light at h
  refine enter Try.func26 rfl (tm := #[.agg #[.int .i64 held1.Lo, .int .i64 held1.Hi, .bool held1.Unknown], .agg #[.int .i64 dark2.Lo, .int .i64 dark2.Hi, .bool dark2.Unknown], .agg #[.int .i64 flat3.Lo, .int .i64 flat3.Hi, .bool flat3.Unknown], .int .i64 beats4, undef, undef, undef, undef, undef, undef, undef, undef, undef, undef, undef, undef, undef, undef, undef, undef, undef, undef, undef, undef, undef, undef, undef, undef, undef, undef, undef, undef, undef, undef, undef, undef, undef, undef, undef, undef, undef, undef, undef, undef, undef, undef, undef, undef, undef, undef, undef, undef, undef, undef, undef, undef, undef, undef, undef, undef, undef, undef, undef, undef, undef, undef, undef, undef, undef, undef, undef, undef, undef, undef, undef, undef, undef, undef]) (by kernel_rfl) ?_
  intro B hret hnor hnp
  refine wp_seq_k (fun K5 hK6 => ?_)
  refine wp_region_lit ?_
  refine seqK rfl (does_box (cs := #[.int .i64 held1.Lo, .int .i64 held1.Hi, .bool held1.Unknown]) rfl (by kernel_rfl : _ = Value.agg #[.int .i64 held1.Lo, .int .i64 held1.Hi, .bool held1.Unknown]) rfl HS ?_)
  intro b7 W8 HS9
  refine seqK rfl (does_box (cs := #[.int .i64 dark2.Lo, .int .i64 dark2.Hi, .bool dark2.Unknown]) rfl (by kernel_rfl : _ = Value.agg #[.int .i64 dark2.Lo, .int .i64 dark2.Hi, .bool dark2.Unknown]) rfl HS9 ?_)
  intro b11 W12 HS13
  refine seqK rfl (does_box (cs := #[.int .i64 flat3.Lo, .int .i64 flat3.Hi, .bool flat3.Unknown]) rfl (by kernel_rfl : _ = Value.agg #[.int .i64 flat3.Lo, .int .i64 flat3.Hi, .bool flat3.Unknown]) rfl HS13 ?_)
  intro b15 W16 HS17
  refine seqK rfl (does_alloc (z := Value.agg #[.int .i64 0, .int .i64 0, .bool false]) (cs := #[.int .i64 0, .int .i64 0, .bool false]) rfl (by kernel_rfl) rfl HS17 ?_)
  intro b19 W20 HS21
  refine wpList_nil ?_
  refine hK6 _ _ ?_
  refine wp_seq_k (fun K23 hK24 => ?_)
  refine wp_region_lit ?_
  refine seqK rfl (does_run (run_loadN (n := 3) rfl Try.underlying44 rfl (by kernel_rfl) (by kernel_rfl : _ = Value.pointer (some ⟨b7, 0, none⟩)) (cs := [.int .i64 held1.Lo, .int .i64 held1.Hi, .bool held1.Unknown]) rfl (HS21.u3.cells 0 3 _ rfl)) ?_)
  have hq_ := bind_some h; clear h; obtain ⟨vt25, hc26, h⟩ := hq_
  refine seqK rfl (does_call (f := 45) (args := #[.agg #[.int .i64 held1.Lo, .int .i64 held1.Hi, .bool held1.Unknown]]) (by kernel_rfl) (bound_Norm_Quanta.calls k held1 HS21 vt25 hc26) ?_)
  rintro _ W29 ⟨f27, rfl, L28, HS30⟩
  refine ⟨_, rfl, ?_⟩
  have hq_ := bind_some h; clear h; obtain ⟨vt31, hc32, h⟩ := hq_
  refine seqK rfl (does_call (f := 50) (args := #[.agg #[.int .i64 vt25.Lo, .int .i64 vt25.Hi, .bool vt25.Unknown]]) (by kernel_rfl) (quanta_Means.calls k vt25 HS30 vt31 hc32) ?_)
  rintro _ W35 ⟨f33, rfl, L34, HS36⟩
  refine ⟨_, rfl, ?_⟩
  have hq_ := bind_some h; clear h; obtain ⟨vt37, hc38, h⟩ := hq_
  refine seqK rfl (does_call (f := 49) (args := #[.agg #[.int .i64 vt31.Lo, .int .i64 vt31.Hi, .bool vt31.Unknown]]) (by kernel_rfl) (bound_As_Light_Quanta.calls k vt31 HS36 vt37 hc38) ?_)
  rintro _ W41 ⟨f39, rfl, L40, HS42⟩
  refine ⟨_, rfl, ?_⟩
  have hq_ := bind_some h; clear h; obtain ⟨vt43, hc44, h⟩ := hq_
  refine seqK rfl (does_call (f := 48) (args := #[.agg #[.int .i64 vt37.Lo, .int .i64 vt37.Hi, .bool vt37.Unknown], .int .i64 16777216, .int .i64 1]) (by kernel_rfl) (bound_Scale_Light.calls k vt37 16777216 1 HS42 vt43 hc44) ?_)
  rintro _ W47 ⟨f45, rfl, L46, HS48⟩
  refine ⟨_, rfl, ?_⟩
  refine seqK rfl (does_alloc (z := Value.agg #[.int .i64 0, .int .i64 0, .bool false]) (cs := #[.int .i64 0, .int .i64 0, .bool false]) rfl (by kernel_rfl) rfl HS48 ?_)
  intro b49 W50 HS51
  refine seqK rfl (does_store (n := 3) (vs := [.int .i64 vt43.Lo, .int .i64 vt43.Hi, .bool vt43.Unknown]) (cs' := #[.int .i64 vt43.Lo, .int .i64 vt43.Hi, .bool vt43.Unknown]) rfl (by kernel_rfl) (by kernel_rfl : _ = Value.pointer (some ⟨b49, 0, none⟩)) (by kernel_rfl : _ = Value.agg #[.int .i64 vt43.Lo, .int .i64 vt43.Hi, .bool vt43.Unknown]) rfl rfl (by intro u_ hu_; simp only [List.mem_cons, List.not_mem_nil, or_false] at hu_; rcases hu_ with rfl | rfl | rfl <;> rfl) HS51 (Nat.le_of_ble_eq_true rfl) (by kernel_rfl) ?_)
  intro W53 HS54
  refine wpList_nil ?_
  refine hK24 _ _ ?_
  refine wp_seq_k (fun K55 hK56 => ?_)
  refine wp_region_lit ?_
  refine seqK rfl (does_run (run_loadN (n := 3) rfl Try.underlying58 rfl (by kernel_rfl) (by kernel_rfl : _ = Value.pointer (some ⟨b15, 0, none⟩)) (cs := [.int .i64 flat3.Lo, .int .i64 flat3.Hi, .bool flat3.Unknown]) rfl (HS54.u2.cells 0 3 _ rfl)) ?_)
  have hq_ := bind_some h; clear h; obtain ⟨vt57, hc58, h⟩ := hq_
  refine seqK rfl (does_call (f := 47) (args := #[.agg #[.int .i64 flat3.Lo, .int .i64 flat3.Hi, .bool flat3.Unknown]]) (by kernel_rfl) (bound_Norm_Part.calls k flat3 HS54 vt57 hc58) ?_)
  rintro _ W61 ⟨f59, rfl, L60, HS62⟩
  refine ⟨_, rfl, ?_⟩
  have HS63 := HS62.u2
  refine seqK rfl (does_store (n := 3) (vs := [.int .i64 vt57.Lo, .int .i64 vt57.Hi, .bool vt57.Unknown]) (cs' := #[.int .i64 vt57.Lo, .int .i64 vt57.Hi, .bool vt57.Unknown]) rfl (by kernel_rfl) (by kernel_rfl : _ = Value.pointer (some ⟨b15, 0, none⟩)) (by kernel_rfl : _ = Value.agg #[.int .i64 vt57.Lo, .int .i64 vt57.Hi, .bool vt57.Unknown]) rfl rfl (by intro u_ hu_; simp only [List.mem_cons, List.not_mem_nil, or_false] at hu_; rcases hu_ with rfl | rfl | rfl <;> rfl) HS63 (Nat.le_of_ble_eq_true rfl) (by kernel_rfl) ?_)
  intro W64 HS65
  refine wpList_nil ?_
  refine hK56 _ _ ?_
  refine wp_seq_k (fun K66 hK67 => ?_)
  refine wp_seq_k (fun K68 hK69 => ?_)
  refine wp_region_lit ?_
  refine seqS3 (a' := ⟨#[.agg #[.int .i64 held1.Lo, .int .i64 held1.Hi, .bool held1.Unknown], .agg #[.int .i64 dark2.Lo, .int .i64 dark2.Hi, .bool dark2.Unknown], .agg #[.int .i64 flat3.Lo, .int .i64 flat3.Hi, .bool flat3.Unknown], .int .i64 beats4, .pointer (some ⟨b7, 0, none⟩), .pointer (some ⟨b11, 0, none⟩), .pointer (some ⟨b15, 0, none⟩), undef, .pointer (some ⟨b19, 0, none⟩), .pointer (some ⟨b49, 0, none⟩), undef, undef, undef, undef, undef, .agg #[.int .i64 held1.Lo, .int .i64 held1.Hi, .bool held1.Unknown], .agg #[.int .i64 vt25.Lo, .int .i64 vt25.Hi, .bool vt25.Unknown], .agg #[.int .i64 vt31.Lo, .int .i64 vt31.Hi, .bool vt31.Unknown], .agg #[.int .i64 vt37.Lo, .int .i64 vt37.Hi, .bool vt37.Unknown], .agg #[.int .i64 vt43.Lo, .int .i64 vt43.Hi, .bool vt43.Unknown], .agg #[.int .i64 flat3.Lo, .int .i64 flat3.Hi, .bool flat3.Unknown], .agg #[.int .i64 vt57.Lo, .int .i64 vt57.Hi, .bool vt57.Unknown], .int .i64 beats4, .bool (decide (beats4 < 0)), .bool (decide (beats4 < 0)), undef, undef, undef, undef, undef, undef, undef, undef, undef, undef, undef, undef, undef, undef, undef, undef, undef, undef, undef, undef, undef, undef, undef, undef, undef, undef, undef, undef, undef, undef, undef, undef, undef, undef, undef, undef, undef, undef, undef, undef, undef, undef, undef, undef, undef, undef, undef, undef, undef, undef, undef, undef, undef], []⟩) (by kernel_rfl) ?_
  have hq_ := ite_some h; clear h; rcases hq_ with ⟨c70, h⟩ | ⟨c70, h⟩
  · have c70 : beats4 < 0 := c70
    refine seqRwI 23 (x := (decide (beats4 < 0))) (v := true) (by kernel_rfl) (decide_eq_true c70) ?_
    refine seqRwI 24 (x := (decide (beats4 < 0))) (v := true) (by kernel_rfl) (decide_eq_true c70) ?_
    refine seqS17 (a' := ⟨#[.agg #[.int .i64 held1.Lo, .int .i64 held1.Hi, .bool held1.Unknown], .agg #[.int .i64 dark2.Lo, .int .i64 dark2.Hi, .bool dark2.Unknown], .agg #[.int .i64 flat3.Lo, .int .i64 flat3.Hi, .bool flat3.Unknown], .int .i64 beats4, .pointer (some ⟨b7, 0, none⟩), .pointer (some ⟨b11, 0, none⟩), .pointer (some ⟨b15, 0, none⟩), undef, .pointer (some ⟨b19, 0, none⟩), .pointer (some ⟨b49, 0, none⟩), undef, undef, undef, undef, undef, .agg #[.int .i64 held1.Lo, .int .i64 held1.Hi, .bool held1.Unknown], .agg #[.int .i64 vt25.Lo, .int .i64 vt25.Hi, .bool vt25.Unknown], .agg #[.int .i64 vt31.Lo, .int .i64 vt31.Hi, .bool vt31.Unknown], .agg #[.int .i64 vt37.Lo, .int .i64 vt37.Hi, .bool vt37.Unknown], .agg #[.int .i64 vt43.Lo, .int .i64 vt43.Hi, .bool vt43.Unknown], .agg #[.int .i64 flat3.Lo, .int .i64 flat3.Hi, .bool flat3.Unknown], .agg #[.int .i64 vt57.Lo, .int .i64 vt57.Hi, .bool vt57.Unknown], .int .i64 beats4, .bool true, .bool true, undef, undef, .bool true, .bool true, undef, undef, .bool true, .bool true, undef, undef, undef, .bool true, .bool true, undef, undef, undef, .bool true, undef, undef, undef, undef, undef, undef, undef, undef, undef, undef, undef, undef, undef, undef, undef, undef, undef, undef, undef, undef, undef, undef, undef, undef, undef, undef, undef, undef, undef, undef, undef, undef, undef, undef, undef, undef], []⟩) (by kernel_rfl) ?_
    refine wpList_nil ?_
    refine hK69 _ _ ?_
    refine condT (by kernel_rfl) ?_
    refine wp_seq_k (fun K71 hK72 => ?_)
    refine wp_region_lit ?_
    have hq_ := bind_some h; clear h; obtain ⟨vt73, hc74, h⟩ := hq_
    refine seqK rfl (does_call (f := 32) (args := #[]) (by kernel_rfl) (bound_None_Quanta.calls k  HS65 vt73 hc74) ?_)
    rintro _ W77 ⟨f75, rfl, L76, HS78⟩
    refine ⟨_, rfl, ?_⟩
    have HS79 := HS78.u2
    refine seqK rfl (does_store (n := 3) (vs := [.int .i64 vt73.Lo, .int .i64 vt73.Hi, .bool vt73.Unknown]) (cs' := #[.int .i64 vt73.Lo, .int .i64 vt73.Hi, .bool vt73.Unknown]) rfl (by kernel_rfl) (by kernel_rfl : _ = Value.pointer (some ⟨b19, 0, none⟩)) (by kernel_rfl : _ = Value.agg #[.int .i64 vt73.Lo, .int .i64 vt73.Hi, .bool vt73.Unknown]) rfl rfl (by intro u_ hu_; simp only [List.mem_cons, List.not_mem_nil, or_false] at hu_; rcases hu_ with rfl | rfl | rfl <;> rfl) HS79 (Nat.le_of_ble_eq_true rfl) (by kernel_rfl) ?_)
    intro W80 HS81
    refine wpList_nil ?_
    refine hK72 _ _ ?_
    refine wp_ret ?_
    refine hret _ _ ?_
    refine ends (v := Value.agg #[.int .i64 vt73.Lo, .int .i64 vt73.Hi, .bool vt73.Unknown]) (results1 (q1 := .cell 8 44) (by kernel_rfl) (resN (n := 3) (cs := [.int .i64 vt73.Lo, .int .i64 vt73.Hi, .bool vt73.Unknown]) (by kernel_rfl : _ = Value.pointer (some ⟨b19, 0, none⟩)) Try.underlying44 rfl (by kernel_rfl) rfl (HS81.cells 0 3 _ rfl))) (by kernel_rfl) ?_
    have HS255 := HS81.drop
    have HS256 := HS255.drop
    have HS257 := HS256.drop
    have HS258 := HS257.drop
    have HS259 := HS258.drop
    injection h with h
    subst h
    exact ⟨f75, rfl, (L28.trans (L34.trans (L40.trans (L46.trans (L60.trans L76))))), HS259⟩
  · have c70 : ¬ (beats4 < 0) := c70
    refine seqRwI 23 (x := (decide (beats4 < 0))) (v := false) (by kernel_rfl) (decide_eq_false c70) ?_
    refine seqRwI 24 (x := (decide (beats4 < 0))) (v := false) (by kernel_rfl) (decide_eq_false c70) ?_
    refine seqS4 (a' := ⟨#[.agg #[.int .i64 held1.Lo, .int .i64 held1.Hi, .bool held1.Unknown], .agg #[.int .i64 dark2.Lo, .int .i64 dark2.Hi, .bool dark2.Unknown], .agg #[.int .i64 flat3.Lo, .int .i64 flat3.Hi, .bool flat3.Unknown], .int .i64 beats4, .pointer (some ⟨b7, 0, none⟩), .pointer (some ⟨b11, 0, none⟩), .pointer (some ⟨b15, 0, none⟩), undef, .pointer (some ⟨b19, 0, none⟩), .pointer (some ⟨b49, 0, none⟩), undef, undef, undef, undef, undef, .agg #[.int .i64 held1.Lo, .int .i64 held1.Hi, .bool held1.Unknown], .agg #[.int .i64 vt25.Lo, .int .i64 vt25.Hi, .bool vt25.Unknown], .agg #[.int .i64 vt31.Lo, .int .i64 vt31.Hi, .bool vt31.Unknown], .agg #[.int .i64 vt37.Lo, .int .i64 vt37.Hi, .bool vt37.Unknown], .agg #[.int .i64 vt43.Lo, .int .i64 vt43.Hi, .bool vt43.Unknown], .agg #[.int .i64 flat3.Lo, .int .i64 flat3.Hi, .bool flat3.Unknown], .agg #[.int .i64 vt57.Lo, .int .i64 vt57.Hi, .bool vt57.Unknown], .int .i64 beats4, .bool false, .bool false, .int .i64 beats4, .bool (decide (beats4 > 16)), .bool (decide (beats4 > 16)), .bool (decide (beats4 > 16)), undef, undef, undef, undef, undef, undef, undef, undef, undef, undef, undef, undef, undef, undef, undef, undef, undef, undef, undef, undef, undef, undef, undef, undef, undef, undef, undef, undef, undef, undef, undef, undef, undef, undef, undef, undef, undef, undef, undef, undef, undef, undef, undef, undef, undef, undef, undef, undef, undef], []⟩) (by kernel_rfl) ?_
    have hq_ := ite_some h; clear h; rcases hq_ with ⟨c82, h⟩ | ⟨c82, h⟩
    · have c82 : beats4 > 16 := c82
      refine seqRwI 26 (x := (decide (beats4 > 16))) (v := true) (by kernel_rfl) (decide_eq_true c82) ?_
      refine seqRwI 27 (x := (decide (beats4 > 16))) (v := true) (by kernel_rfl) (decide_eq_true c82) ?_
      refine seqRwI 28 (x := (decide (beats4 > 16))) (v := true) (by kernel_rfl) (decide_eq_true c82) ?_
      refine seqS13 (a' := ⟨#[.agg #[.int .i64 held1.Lo, .int .i64 held1.Hi, .bool held1.Unknown], .agg #[.int .i64 dark2.Lo, .int .i64 dark2.Hi, .bool dark2.Unknown], .agg #[.int .i64 flat3.Lo, .int .i64 flat3.Hi, .bool flat3.Unknown], .int .i64 beats4, .pointer (some ⟨b7, 0, none⟩), .pointer (some ⟨b11, 0, none⟩), .pointer (some ⟨b15, 0, none⟩), undef, .pointer (some ⟨b19, 0, none⟩), .pointer (some ⟨b49, 0, none⟩), undef, undef, undef, undef, undef, .agg #[.int .i64 held1.Lo, .int .i64 held1.Hi, .bool held1.Unknown], .agg #[.int .i64 vt25.Lo, .int .i64 vt25.Hi, .bool vt25.Unknown], .agg #[.int .i64 vt31.Lo, .int .i64 vt31.Hi, .bool vt31.Unknown], .agg #[.int .i64 vt37.Lo, .int .i64 vt37.Hi, .bool vt37.Unknown], .agg #[.int .i64 vt43.Lo, .int .i64 vt43.Hi, .bool vt43.Unknown], .agg #[.int .i64 flat3.Lo, .int .i64 flat3.Hi, .bool flat3.Unknown], .agg #[.int .i64 vt57.Lo, .int .i64 vt57.Hi, .bool vt57.Unknown], .int .i64 beats4, .bool false, .bool false, .int .i64 beats4, .bool true, .bool true, .bool true, undef, undef, .bool true, .bool true, undef, undef, undef, .bool true, .bool true, undef, undef, undef, .bool true, undef, undef, undef, undef, undef, undef, undef, undef, undef, undef, undef, undef, undef, undef, undef, undef, undef, undef, undef, undef, undef, undef, undef, undef, undef, undef, undef, undef, undef, undef, undef, undef, undef, undef, undef, undef], []⟩) (by kernel_rfl) ?_
      refine wpList_nil ?_
      refine hK69 _ _ ?_
      refine condT (by kernel_rfl) ?_
      refine wp_seq_k (fun K83 hK84 => ?_)
      refine wp_region_lit ?_
      have hq_ := bind_some h; clear h; obtain ⟨vt85, hc86, h⟩ := hq_
      refine seqK rfl (does_call (f := 32) (args := #[]) (by kernel_rfl) (bound_None_Quanta.calls k  HS65 vt85 hc86) ?_)
      rintro _ W89 ⟨f87, rfl, L88, HS90⟩
      refine ⟨_, rfl, ?_⟩
      have HS91 := HS90.u2
      refine seqK rfl (does_store (n := 3) (vs := [.int .i64 vt85.Lo, .int .i64 vt85.Hi, .bool vt85.Unknown]) (cs' := #[.int .i64 vt85.Lo, .int .i64 vt85.Hi, .bool vt85.Unknown]) rfl (by kernel_rfl) (by kernel_rfl : _ = Value.pointer (some ⟨b19, 0, none⟩)) (by kernel_rfl : _ = Value.agg #[.int .i64 vt85.Lo, .int .i64 vt85.Hi, .bool vt85.Unknown]) rfl rfl (by intro u_ hu_; simp only [List.mem_cons, List.not_mem_nil, or_false] at hu_; rcases hu_ with rfl | rfl | rfl <;> rfl) HS91 (Nat.le_of_ble_eq_true rfl) (by kernel_rfl) ?_)
      intro W92 HS93
      refine wpList_nil ?_
      refine hK84 _ _ ?_
      refine wp_ret ?_
      refine hret _ _ ?_
      refine ends (v := Value.agg #[.int .i64 vt85.Lo, .int .i64 vt85.Hi, .bool vt85.Unknown]) (results1 (q1 := .cell 8 44) (by kernel_rfl) (resN (n := 3) (cs := [.int .i64 vt85.Lo, .int .i64 vt85.Hi, .bool vt85.Unknown]) (by kernel_rfl : _ = Value.pointer (some ⟨b19, 0, none⟩)) Try.underlying44 rfl (by kernel_rfl) rfl (HS93.cells 0 3 _ rfl))) (by kernel_rfl) ?_
      have HS260 := HS93.drop
      have HS261 := HS260.drop
      have HS262 := HS261.drop
      have HS263 := HS262.drop
      have HS264 := HS263.drop
      injection h with h
      subst h
      exact ⟨f87, rfl, (L28.trans (L34.trans (L40.trans (L46.trans (L60.trans L88))))), HS264⟩
    · have c82 : ¬ (beats4 > 16) := c82
      refine seqRwI 26 (x := (decide (beats4 > 16))) (v := false) (by kernel_rfl) (decide_eq_false c82) ?_
      refine seqRwI 27 (x := (decide (beats4 > 16))) (v := false) (by kernel_rfl) (decide_eq_false c82) ?_
      refine seqRwI 28 (x := (decide (beats4 > 16))) (v := false) (by kernel_rfl) (decide_eq_false c82) ?_
      refine seqL1 (by kernel_rfl) ?_
      refine seqG (by kernel_rfl) (does_run (run_load rfl Try.underlying4 rfl (by kernel_rfl : _ = Value.pointer (some ⟨b15, 2, none⟩)) (HS65.cell 2)) ?_)
      refine seqS2 (a' := ⟨#[.agg #[.int .i64 held1.Lo, .int .i64 held1.Hi, .bool held1.Unknown], .agg #[.int .i64 dark2.Lo, .int .i64 dark2.Hi, .bool dark2.Unknown], .agg #[.int .i64 flat3.Lo, .int .i64 flat3.Hi, .bool flat3.Unknown], .int .i64 beats4, .pointer (some ⟨b7, 0, none⟩), .pointer (some ⟨b11, 0, none⟩), .pointer (some ⟨b15, 0, none⟩), undef, .pointer (some ⟨b19, 0, none⟩), .pointer (some ⟨b49, 0, none⟩), undef, undef, undef, undef, undef, .agg #[.int .i64 held1.Lo, .int .i64 held1.Hi, .bool held1.Unknown], .agg #[.int .i64 vt25.Lo, .int .i64 vt25.Hi, .bool vt25.Unknown], .agg #[.int .i64 vt31.Lo, .int .i64 vt31.Hi, .bool vt31.Unknown], .agg #[.int .i64 vt37.Lo, .int .i64 vt37.Hi, .bool vt37.Unknown], .agg #[.int .i64 vt43.Lo, .int .i64 vt43.Hi, .bool vt43.Unknown], .agg #[.int .i64 flat3.Lo, .int .i64 flat3.Hi, .bool flat3.Unknown], .agg #[.int .i64 vt57.Lo, .int .i64 vt57.Hi, .bool vt57.Unknown], .int .i64 beats4, .bool false, .bool false, .int .i64 beats4, .bool false, .bool false, .bool false, .pointer (some ⟨b15, 2, none⟩), .bool vt57.Unknown, .bool vt57.Unknown, .bool vt57.Unknown, undef, undef, undef, undef, undef, undef, undef, undef, undef, undef, undef, undef, undef, undef, undef, undef, undef, undef, undef, undef, undef, undef, undef, undef, undef, undef, undef, undef, undef, undef, undef, undef, undef, undef, undef, undef, undef, undef, undef, undef, undef, undef, undef, undef, undef], []⟩) (by kernel_rfl) ?_
      have hq_ := ite_some h; clear h; rcases hq_ with ⟨c94, h⟩ | ⟨c94, h⟩
      · have c94 : vt57.Unknown = true := c94
        refine seqRwI 30 (x := vt57.Unknown) (v := true) (by kernel_rfl) c94 ?_
        refine seqRwI 31 (x := vt57.Unknown) (v := true) (by kernel_rfl) c94 ?_
        refine seqRwI 32 (x := vt57.Unknown) (v := true) (by kernel_rfl) c94 ?_
        refine seqS9 (a' := ⟨#[.agg #[.int .i64 held1.Lo, .int .i64 held1.Hi, .bool held1.Unknown], .agg #[.int .i64 dark2.Lo, .int .i64 dark2.Hi, .bool dark2.Unknown], .agg #[.int .i64 flat3.Lo, .int .i64 flat3.Hi, .bool flat3.Unknown], .int .i64 beats4, .pointer (some ⟨b7, 0, none⟩), .pointer (some ⟨b11, 0, none⟩), .pointer (some ⟨b15, 0, none⟩), undef, .pointer (some ⟨b19, 0, none⟩), .pointer (some ⟨b49, 0, none⟩), undef, undef, undef, undef, undef, .agg #[.int .i64 held1.Lo, .int .i64 held1.Hi, .bool held1.Unknown], .agg #[.int .i64 vt25.Lo, .int .i64 vt25.Hi, .bool vt25.Unknown], .agg #[.int .i64 vt31.Lo, .int .i64 vt31.Hi, .bool vt31.Unknown], .agg #[.int .i64 vt37.Lo, .int .i64 vt37.Hi, .bool vt37.Unknown], .agg #[.int .i64 vt43.Lo, .int .i64 vt43.Hi, .bool vt43.Unknown], .agg #[.int .i64 flat3.Lo, .int .i64 flat3.Hi, .bool flat3.Unknown], .agg #[.int .i64 vt57.Lo, .int .i64 vt57.Hi, .bool vt57.Unknown], .int .i64 beats4, .bool false, .bool false, .int .i64 beats4, .bool false, .bool false, .bool false, .pointer (some ⟨b15, 2, none⟩), .bool true, .bool true, .bool true, undef, undef, undef, .bool true, .bool true, undef, undef, undef, .bool true, undef, undef, undef, undef, undef, undef, undef, undef, undef, undef, undef, undef, undef, undef, undef, undef, undef, undef, undef, undef, undef, undef, undef, undef, undef, undef, undef, undef, undef, undef, undef, undef, undef, undef, undef, undef], []⟩) (by kernel_rfl) ?_
        refine wpList_nil ?_
        refine hK69 _ _ ?_
        refine condT (by kernel_rfl) ?_
        refine wp_seq_k (fun K95 hK96 => ?_)
        refine wp_region_lit ?_
        have hq_ := bind_some h; clear h; obtain ⟨vt97, hc98, h⟩ := hq_
        refine seqK rfl (does_call (f := 32) (args := #[]) (by kernel_rfl) (bound_None_Quanta.calls k  HS65 vt97 hc98) ?_)
        rintro _ W101 ⟨f99, rfl, L100, HS102⟩
        refine ⟨_, rfl, ?_⟩
        have HS103 := HS102.u2
        refine seqK rfl (does_store (n := 3) (vs := [.int .i64 vt97.Lo, .int .i64 vt97.Hi, .bool vt97.Unknown]) (cs' := #[.int .i64 vt97.Lo, .int .i64 vt97.Hi, .bool vt97.Unknown]) rfl (by kernel_rfl) (by kernel_rfl : _ = Value.pointer (some ⟨b19, 0, none⟩)) (by kernel_rfl : _ = Value.agg #[.int .i64 vt97.Lo, .int .i64 vt97.Hi, .bool vt97.Unknown]) rfl rfl (by intro u_ hu_; simp only [List.mem_cons, List.not_mem_nil, or_false] at hu_; rcases hu_ with rfl | rfl | rfl <;> rfl) HS103 (Nat.le_of_ble_eq_true rfl) (by kernel_rfl) ?_)
        intro W104 HS105
        refine wpList_nil ?_
        refine hK96 _ _ ?_
        refine wp_ret ?_
        refine hret _ _ ?_
        refine ends (v := Value.agg #[.int .i64 vt97.Lo, .int .i64 vt97.Hi, .bool vt97.Unknown]) (results1 (q1 := .cell 8 44) (by kernel_rfl) (resN (n := 3) (cs := [.int .i64 vt97.Lo, .int .i64 vt97.Hi, .bool vt97.Unknown]) (by kernel_rfl : _ = Value.pointer (some ⟨b19, 0, none⟩)) Try.underlying44 rfl (by kernel_rfl) rfl (HS105.cells 0 3 _ rfl))) (by kernel_rfl) ?_
        have HS265 := HS105.drop
        have HS266 := HS265.drop
        have HS267 := HS266.drop
        have HS268 := HS267.drop
        have HS269 := HS268.drop
        injection h with h
        subst h
        exact ⟨f99, rfl, (L28.trans (L34.trans (L40.trans (L46.trans (L60.trans L100))))), HS269⟩
      · have c94 : ¬ (vt57.Unknown = true) := c94
        refine seqRwI 30 (x := vt57.Unknown) (v := false) (by kernel_rfl) (Bool.eq_false_iff.mpr c94) ?_
        refine seqRwI 31 (x := vt57.Unknown) (v := false) (by kernel_rfl) (Bool.eq_false_iff.mpr c94) ?_
        refine seqRwI 32 (x := vt57.Unknown) (v := false) (by kernel_rfl) (Bool.eq_false_iff.mpr c94) ?_
        refine seqL1 (by kernel_rfl) ?_
        refine seqG (by kernel_rfl) (does_run (run_load rfl Try.underlying56 rfl (by kernel_rfl : _ = Value.pointer (some ⟨b15, 0, none⟩)) (HS65.cell 0)) ?_)
        refine seqS3 (a' := ⟨#[.agg #[.int .i64 held1.Lo, .int .i64 held1.Hi, .bool held1.Unknown], .agg #[.int .i64 dark2.Lo, .int .i64 dark2.Hi, .bool dark2.Unknown], .agg #[.int .i64 flat3.Lo, .int .i64 flat3.Hi, .bool flat3.Unknown], .int .i64 beats4, .pointer (some ⟨b7, 0, none⟩), .pointer (some ⟨b11, 0, none⟩), .pointer (some ⟨b15, 0, none⟩), undef, .pointer (some ⟨b19, 0, none⟩), .pointer (some ⟨b49, 0, none⟩), undef, undef, undef, undef, undef, .agg #[.int .i64 held1.Lo, .int .i64 held1.Hi, .bool held1.Unknown], .agg #[.int .i64 vt25.Lo, .int .i64 vt25.Hi, .bool vt25.Unknown], .agg #[.int .i64 vt31.Lo, .int .i64 vt31.Hi, .bool vt31.Unknown], .agg #[.int .i64 vt37.Lo, .int .i64 vt37.Hi, .bool vt37.Unknown], .agg #[.int .i64 vt43.Lo, .int .i64 vt43.Hi, .bool vt43.Unknown], .agg #[.int .i64 flat3.Lo, .int .i64 flat3.Hi, .bool flat3.Unknown], .agg #[.int .i64 vt57.Lo, .int .i64 vt57.Hi, .bool vt57.Unknown], .int .i64 beats4, .bool false, .bool false, .int .i64 beats4, .bool false, .bool false, .bool false, .pointer (some ⟨b15, 2, none⟩), .bool false, .bool false, .bool false, .pointer (some ⟨b15, 0, none⟩), .int .i64 vt57.Lo, .bool (decide (vt57.Lo < 1)), .bool (decide (vt57.Lo < 1)), .bool (decide (vt57.Lo < 1)), undef, undef, undef, undef, undef, undef, undef, undef, undef, undef, undef, undef, undef, undef, undef, undef, undef, undef, undef, undef, undef, undef, undef, undef, undef, undef, undef, undef, undef, undef, undef, undef, undef, undef, undef, undef, undef, undef, undef, undef], []⟩) (by kernel_rfl) ?_
        have hq_ := ite_some h; clear h; rcases hq_ with ⟨c106, h⟩ | ⟨c106, h⟩
        · have c106 : vt57.Lo < 1 := c106
          refine seqRwI 35 (x := (decide (vt57.Lo < 1))) (v := true) (by kernel_rfl) (decide_eq_true c106) ?_
          refine seqRwI 36 (x := (decide (vt57.Lo < 1))) (v := true) (by kernel_rfl) (decide_eq_true c106) ?_
          refine seqRwI 37 (x := (decide (vt57.Lo < 1))) (v := true) (by kernel_rfl) (decide_eq_true c106) ?_
          refine seqS4 (a' := ⟨#[.agg #[.int .i64 held1.Lo, .int .i64 held1.Hi, .bool held1.Unknown], .agg #[.int .i64 dark2.Lo, .int .i64 dark2.Hi, .bool dark2.Unknown], .agg #[.int .i64 flat3.Lo, .int .i64 flat3.Hi, .bool flat3.Unknown], .int .i64 beats4, .pointer (some ⟨b7, 0, none⟩), .pointer (some ⟨b11, 0, none⟩), .pointer (some ⟨b15, 0, none⟩), undef, .pointer (some ⟨b19, 0, none⟩), .pointer (some ⟨b49, 0, none⟩), undef, undef, undef, undef, undef, .agg #[.int .i64 held1.Lo, .int .i64 held1.Hi, .bool held1.Unknown], .agg #[.int .i64 vt25.Lo, .int .i64 vt25.Hi, .bool vt25.Unknown], .agg #[.int .i64 vt31.Lo, .int .i64 vt31.Hi, .bool vt31.Unknown], .agg #[.int .i64 vt37.Lo, .int .i64 vt37.Hi, .bool vt37.Unknown], .agg #[.int .i64 vt43.Lo, .int .i64 vt43.Hi, .bool vt43.Unknown], .agg #[.int .i64 flat3.Lo, .int .i64 flat3.Hi, .bool flat3.Unknown], .agg #[.int .i64 vt57.Lo, .int .i64 vt57.Hi, .bool vt57.Unknown], .int .i64 beats4, .bool false, .bool false, .int .i64 beats4, .bool false, .bool false, .bool false, .pointer (some ⟨b15, 2, none⟩), .bool false, .bool false, .bool false, .pointer (some ⟨b15, 0, none⟩), .int .i64 vt57.Lo, .bool true, .bool true, .bool true, undef, undef, undef, .bool true, undef, undef, undef, undef, undef, undef, undef, undef, undef, undef, undef, undef, undef, undef, undef, undef, undef, undef, undef, undef, undef, undef, undef, undef, undef, undef, undef, undef, undef, undef, undef, undef, undef, undef, undef, undef], []⟩) (by kernel_rfl) ?_
          refine wpList_nil ?_
          refine hK69 _ _ ?_
          refine condT (by kernel_rfl) ?_
          refine wp_seq_k (fun K107 hK108 => ?_)
          refine wp_region_lit ?_
          have hq_ := bind_some h; clear h; obtain ⟨vt109, hc110, h⟩ := hq_
          refine seqK rfl (does_call (f := 32) (args := #[]) (by kernel_rfl) (bound_None_Quanta.calls k  HS65 vt109 hc110) ?_)
          rintro _ W113 ⟨f111, rfl, L112, HS114⟩
          refine ⟨_, rfl, ?_⟩
          have HS115 := HS114.u2
          refine seqK rfl (does_store (n := 3) (vs := [.int .i64 vt109.Lo, .int .i64 vt109.Hi, .bool vt109.Unknown]) (cs' := #[.int .i64 vt109.Lo, .int .i64 vt109.Hi, .bool vt109.Unknown]) rfl (by kernel_rfl) (by kernel_rfl : _ = Value.pointer (some ⟨b19, 0, none⟩)) (by kernel_rfl : _ = Value.agg #[.int .i64 vt109.Lo, .int .i64 vt109.Hi, .bool vt109.Unknown]) rfl rfl (by intro u_ hu_; simp only [List.mem_cons, List.not_mem_nil, or_false] at hu_; rcases hu_ with rfl | rfl | rfl <;> rfl) HS115 (Nat.le_of_ble_eq_true rfl) (by kernel_rfl) ?_)
          intro W116 HS117
          refine wpList_nil ?_
          refine hK108 _ _ ?_
          refine wp_ret ?_
          refine hret _ _ ?_
          refine ends (v := Value.agg #[.int .i64 vt109.Lo, .int .i64 vt109.Hi, .bool vt109.Unknown]) (results1 (q1 := .cell 8 44) (by kernel_rfl) (resN (n := 3) (cs := [.int .i64 vt109.Lo, .int .i64 vt109.Hi, .bool vt109.Unknown]) (by kernel_rfl : _ = Value.pointer (some ⟨b19, 0, none⟩)) Try.underlying44 rfl (by kernel_rfl) rfl (HS117.cells 0 3 _ rfl))) (by kernel_rfl) ?_
          have HS270 := HS117.drop
          have HS271 := HS270.drop
          have HS272 := HS271.drop
          have HS273 := HS272.drop
          have HS274 := HS273.drop
          injection h with h
          subst h
          exact ⟨f111, rfl, (L28.trans (L34.trans (L40.trans (L46.trans (L60.trans L112))))), HS274⟩
        · have c106 : ¬ (vt57.Lo < 1) := c106
          refine seqRwI 35 (x := (decide (vt57.Lo < 1))) (v := false) (by kernel_rfl) (decide_eq_false c106) ?_
          refine seqRwI 36 (x := (decide (vt57.Lo < 1))) (v := false) (by kernel_rfl) (decide_eq_false c106) ?_
          refine seqRwI 37 (x := (decide (vt57.Lo < 1))) (v := false) (by kernel_rfl) (decide_eq_false c106) ?_
          refine seqL1 (by kernel_rfl) ?_
          refine seqG (by kernel_rfl) (does_run (run_load rfl Try.underlying56 rfl (by kernel_rfl : _ = Value.pointer (some ⟨b15, 1, none⟩)) (HS65.cell 1)) ?_)
          refine seqS2 (a' := ⟨#[.agg #[.int .i64 held1.Lo, .int .i64 held1.Hi, .bool held1.Unknown], .agg #[.int .i64 dark2.Lo, .int .i64 dark2.Hi, .bool dark2.Unknown], .agg #[.int .i64 flat3.Lo, .int .i64 flat3.Hi, .bool flat3.Unknown], .int .i64 beats4, .pointer (some ⟨b7, 0, none⟩), .pointer (some ⟨b11, 0, none⟩), .pointer (some ⟨b15, 0, none⟩), undef, .pointer (some ⟨b19, 0, none⟩), .pointer (some ⟨b49, 0, none⟩), undef, undef, undef, undef, undef, .agg #[.int .i64 held1.Lo, .int .i64 held1.Hi, .bool held1.Unknown], .agg #[.int .i64 vt25.Lo, .int .i64 vt25.Hi, .bool vt25.Unknown], .agg #[.int .i64 vt31.Lo, .int .i64 vt31.Hi, .bool vt31.Unknown], .agg #[.int .i64 vt37.Lo, .int .i64 vt37.Hi, .bool vt37.Unknown], .agg #[.int .i64 vt43.Lo, .int .i64 vt43.Hi, .bool vt43.Unknown], .agg #[.int .i64 flat3.Lo, .int .i64 flat3.Hi, .bool flat3.Unknown], .agg #[.int .i64 vt57.Lo, .int .i64 vt57.Hi, .bool vt57.Unknown], .int .i64 beats4, .bool false, .bool false, .int .i64 beats4, .bool false, .bool false, .bool false, .pointer (some ⟨b15, 2, none⟩), .bool false, .bool false, .bool false, .pointer (some ⟨b15, 0, none⟩), .int .i64 vt57.Lo, .bool false, .bool false, .bool false, .pointer (some ⟨b15, 1, none⟩), .int .i64 vt57.Hi, .bool (decide (vt57.Hi > 4096)), .bool (decide (vt57.Hi > 4096)), undef, undef, undef, undef, undef, undef, undef, undef, undef, undef, undef, undef, undef, undef, undef, undef, undef, undef, undef, undef, undef, undef, undef, undef, undef, undef, undef, undef, undef, undef, undef, undef, undef, undef, undef, undef], []⟩) (by kernel_rfl) ?_
          refine wpList_nil ?_
          refine hK69 _ _ ?_
          have hq_ := ite_some h; clear h; rcases hq_ with ⟨c119, h⟩ | ⟨c119, h⟩
          · have c119 : vt57.Hi > 4096 := c119
            refine wpRwI 40 (x := (decide (vt57.Hi > 4096))) (v := true) (by kernel_rfl) (decide_eq_true c119) ?_
            refine wpRwI 41 (x := (decide (vt57.Hi > 4096))) (v := true) (by kernel_rfl) (decide_eq_true c119) ?_
            refine condT (by kernel_rfl) ?_
            refine wp_seq_k (fun K120 hK121 => ?_)
            refine wp_region_lit ?_
            have hq_ := bind_some h; clear h; obtain ⟨vt122, hc123, h⟩ := hq_
            refine seqK rfl (does_call (f := 32) (args := #[]) (by kernel_rfl) (bound_None_Quanta.calls k  HS65 vt122 hc123) ?_)
            rintro _ W126 ⟨f124, rfl, L125, HS127⟩
            refine ⟨_, rfl, ?_⟩
            have HS128 := HS127.u2
            refine seqK rfl (does_store (n := 3) (vs := [.int .i64 vt122.Lo, .int .i64 vt122.Hi, .bool vt122.Unknown]) (cs' := #[.int .i64 vt122.Lo, .int .i64 vt122.Hi, .bool vt122.Unknown]) rfl (by kernel_rfl) (by kernel_rfl : _ = Value.pointer (some ⟨b19, 0, none⟩)) (by kernel_rfl : _ = Value.agg #[.int .i64 vt122.Lo, .int .i64 vt122.Hi, .bool vt122.Unknown]) rfl rfl (by intro u_ hu_; simp only [List.mem_cons, List.not_mem_nil, or_false] at hu_; rcases hu_ with rfl | rfl | rfl <;> rfl) HS128 (Nat.le_of_ble_eq_true rfl) (by kernel_rfl) ?_)
            intro W129 HS130
            refine wpList_nil ?_
            refine hK121 _ _ ?_
            refine wp_ret ?_
            refine hret _ _ ?_
            refine ends (v := Value.agg #[.int .i64 vt122.Lo, .int .i64 vt122.Hi, .bool vt122.Unknown]) (results1 (q1 := .cell 8 44) (by kernel_rfl) (resN (n := 3) (cs := [.int .i64 vt122.Lo, .int .i64 vt122.Hi, .bool vt122.Unknown]) (by kernel_rfl : _ = Value.pointer (some ⟨b19, 0, none⟩)) Try.underlying44 rfl (by kernel_rfl) rfl (HS130.cells 0 3 _ rfl))) (by kernel_rfl) ?_
            have HS275 := HS130.drop
            have HS276 := HS275.drop
            have HS277 := HS276.drop
            have HS278 := HS277.drop
            have HS279 := HS278.drop
            injection h with h
            subst h
            exact ⟨f124, rfl, (L28.trans (L34.trans (L40.trans (L46.trans (L60.trans L125))))), HS279⟩
          · have c119 : ¬ (vt57.Hi > 4096) := c119
            refine wpRwI 40 (x := (decide (vt57.Hi > 4096))) (v := false) (by kernel_rfl) (decide_eq_false c119) ?_
            refine wpRwI 41 (x := (decide (vt57.Hi > 4096))) (v := false) (by kernel_rfl) (decide_eq_false c119) ?_
            refine condF (by kernel_rfl) ?_
            refine wp_skip ?_
            refine hK67 _ _ ?_
            refine wp_seq_k (fun K131 hK132 => ?_)
            refine heldG (S := Sg t f59 ([(b15, .cells #[.int .i64 vt57.Lo, .int .i64 vt57.Hi, .bool vt57.Unknown] 58 (0, 0))] :: [(b49, .cells #[.int .i64 vt43.Lo, .int .i64 vt43.Hi, .bool vt43.Unknown] 54 (0, 0))] :: [(b19, .cells #[.int .i64 0, .int .i64 0, .bool false] 44 (0, 0))] :: [(b11, .cells #[.int .i64 dark2.Lo, .int .i64 dark2.Hi, .bool dark2.Unknown] 54 (0, 0))] :: [(b7, .cells #[.int .i64 held1.Lo, .int .i64 held1.Hi, .bool held1.Unknown] 44 (0, 0))] :: H) []) (n := 7) (by kernel_rfl) rfl HS65 ?_
            intro W133 HS134
            refine takeGQ 0 [] rfl (by kernel_rfl) (by kernel_rfl) (by kernel_rfl) (by kernel_rfl) (by kernel_rfl) (by kernel_rfl) hnp (Sg.g0 (Sx.of [] (FM.le.refl _) HS134)) (fun w_ hw_ => by obtain ⟨g_, hl_, hS_⟩ := hw_.st; exact run_loadN (n := 3) rfl Try.underlying54 rfl (by kernel_rfl) (by kernel_rfl : _ = Value.pointer (some ⟨b49, 0, none⟩)) (cs := [.int .i64 vt43.Lo, .int .i64 vt43.Hi, .bool vt43.Unknown]) rfl (hS_.u1.cells 0 3 _ rfl)) ?_
            refine takeGQ 1 [] rfl (by kernel_rfl) (by kernel_rfl) (by kernel_rfl) (by kernel_rfl) (by kernel_rfl) (by kernel_rfl) hnp (Sg.g0 (Sx.of [] (FM.le.refl _) HS134)) (fun w_ hw_ => by obtain ⟨g_, hl_, hS_⟩ := hw_.st; exact run_loadN (n := 3) rfl Try.underlying54 rfl (by kernel_rfl) (by kernel_rfl : _ = Value.pointer (some ⟨b11, 0, none⟩)) (cs := [.int .i64 dark2.Lo, .int .i64 dark2.Hi, .bool dark2.Unknown]) rfl (hS_.u3.cells 0 3 _ rfl)) ?_
            have hq_ := bind_some h; clear h; obtain ⟨vt135, hc136, h⟩ := hq_
            have hq_ := bind_some h; clear h; obtain ⟨vt141, hc142, h⟩ := hq_
            refine takeG [2] (n := 5) (fuel := 4) (l' := #[true, true, true, false, false, false, false]) (a' := ⟨#[.agg #[.int .i64 held1.Lo, .int .i64 held1.Hi, .bool held1.Unknown], .agg #[.int .i64 dark2.Lo, .int .i64 dark2.Hi, .bool dark2.Unknown], .agg #[.int .i64 flat3.Lo, .int .i64 flat3.Hi, .bool flat3.Unknown], .int .i64 beats4, .pointer (some ⟨b7, 0, none⟩), .pointer (some ⟨b11, 0, none⟩), .pointer (some ⟨b15, 0, none⟩), undef, .pointer (some ⟨b19, 0, none⟩), .pointer (some ⟨b49, 0, none⟩), undef, undef, undef, undef, undef, .agg #[.int .i64 held1.Lo, .int .i64 held1.Hi, .bool held1.Unknown], .agg #[.int .i64 vt25.Lo, .int .i64 vt25.Hi, .bool vt25.Unknown], .agg #[.int .i64 vt31.Lo, .int .i64 vt31.Hi, .bool vt31.Unknown], .agg #[.int .i64 vt37.Lo, .int .i64 vt37.Hi, .bool vt37.Unknown], .agg #[.int .i64 vt43.Lo, .int .i64 vt43.Hi, .bool vt43.Unknown], .agg #[.int .i64 flat3.Lo, .int .i64 flat3.Hi, .bool flat3.Unknown], .agg #[.int .i64 vt57.Lo, .int .i64 vt57.Hi, .bool vt57.Unknown], .int .i64 beats4, .bool false, .bool false, .int .i64 beats4, .bool false, .bool false, .bool false, .pointer (some ⟨b15, 2, none⟩), .bool false, .bool false, .bool false, .pointer (some ⟨b15, 0, none⟩), .int .i64 vt57.Lo, .bool false, .bool false, .bool false, .pointer (some ⟨b15, 1, none⟩), .int .i64 vt57.Hi, .bool false, .bool false, undef, .agg #[.int .i64 vt43.Lo, .int .i64 vt43.Hi, .bool vt43.Unknown], .agg #[.int .i64 dark2.Lo, .int .i64 dark2.Hi, .bool dark2.Unknown], .int .i64 beats4, undef, undef, undef, undef, undef, undef, undef, undef, undef, undef, undef, undef, undef, undef, undef, undef, undef, undef, undef, undef, undef, undef, undef, undef, undef, undef, undef, undef, undef, undef, undef, undef], []⟩) rfl (by kernel_rfl) (by kernel_rfl) (by kernel_rfl) hnp (Sg.g0 (Sx.of [] (FM.le.refl _) HS134)) ?_
            refine withR #[true, true, true, true, true, true, true] ?_
            intro R153 hR154 hR155
            have J156 : ∀ (f137 : FM) (f143 : FM) (b147 : Nat) (W157 : World) (a_ : Act), FM.le f59 f137 → FM.le f137 f143 → St t W157 f143 ([(b147, .cells #[.int .i64 vt141.Lo, .int .i64 vt141.Hi, .bool vt141.Unknown] 54 (0, 0))] :: [(b15, .cells #[.int .i64 vt57.Lo, .int .i64 vt57.Hi, .bool vt57.Unknown] 58 (0, 0))] :: [(b49, .cells #[.int .i64 vt43.Lo, .int .i64 vt43.Hi, .bool vt43.Unknown] 54 (0, 0))] :: [(b19, .cells #[.int .i64 0, .int .i64 0, .bool false] 44 (0, 0))] :: [(b11, .cells #[.int .i64 dark2.Lo, .int .i64 dark2.Hi, .bool dark2.Unknown] 54 (0, 0))] :: [(b7, .cells #[.int .i64 held1.Lo, .int .i64 held1.Hi, .bool held1.Unknown] 44 (0, 0))] :: H) → a_ = ⟨#[.agg #[.int .i64 held1.Lo, .int .i64 held1.Hi, .bool held1.Unknown], .agg #[.int .i64 dark2.Lo, .int .i64 dark2.Hi, .bool dark2.Unknown], .agg #[.int .i64 flat3.Lo, .int .i64 flat3.Hi, .bool flat3.Unknown], .int .i64 beats4, .pointer (some ⟨b7, 0, none⟩), .pointer (some ⟨b11, 0, none⟩), .pointer (some ⟨b15, 0, none⟩), undef, .pointer (some ⟨b19, 0, none⟩), .pointer (some ⟨b49, 0, none⟩), .pointer (some ⟨b147, 0, none⟩), undef, undef, undef, undef, .agg #[.int .i64 held1.Lo, .int .i64 held1.Hi, .bool held1.Unknown], .agg #[.int .i64 vt25.Lo, .int .i64 vt25.Hi, .bool vt25.Unknown], .agg #[.int .i64 vt31.Lo, .int .i64 vt31.Hi, .bool vt31.Unknown], .agg #[.int .i64 vt37.Lo, .int .i64 vt37.Hi, .bool vt37.Unknown], .agg #[.int .i64 vt43.Lo, .int .i64 vt43.Hi, .bool vt43.Unknown], .agg #[.int .i64 flat3.Lo, .int .i64 flat3.Hi, .bool flat3.Unknown], .agg #[.int .i64 vt57.Lo, .int .i64 vt57.Hi, .bool vt57.Unknown], .int .i64 beats4, .bool false, .bool false, .int .i64 beats4, .bool false, .bool false, .bool false, .pointer (some ⟨b15, 2, none⟩), .bool false, .bool false, .bool false, .pointer (some ⟨b15, 0, none⟩), .int .i64 vt57.Lo, .bool false, .bool false, .bool false, .pointer (some ⟨b15, 1, none⟩), .int .i64 vt57.Hi, .bool false, .bool false, undef, .agg #[.int .i64 vt43.Lo, .int .i64 vt43.Hi, .bool vt43.Unknown], .agg #[.int .i64 dark2.Lo, .int .i64 dark2.Hi, .bool dark2.Unknown], .int .i64 beats4, .agg #[.int .i64 vt135.Lo, .int .i64 vt135.Hi, .bool vt135.Unknown], .agg #[.int .i64 vt141.Lo, .int .i64 vt141.Hi, .bool vt141.Unknown], undef, undef, undef, undef, undef, undef, undef, undef, undef, undef, undef, undef, undef, undef, undef, undef, undef, undef, undef, undef, undef, undef, undef, undef, undef, undef, undef, undef, undef, undef], []⟩ → R153 a_ W157 := by
              intro f137 f143 b147 W157 a_ L138 L144 HS158 hfr_; subst hfr_
              refine hR154 _ _ ?_
              refine doneG (by kernel_rfl) ?_ _
              refine hK132 _ _ ?_
              refine wp_seq_k (fun K197 hK198 => ?_)
              refine wp_seq_k (fun K199 hK200 => ?_)
              refine wp_region_lit ?_
              refine seqL1 (by kernel_rfl) ?_
              refine seqK rfl (does_run (run_load rfl Try.underlying4 rfl (by kernel_rfl : _ = Value.pointer (some ⟨b147, 2, none⟩)) (HS158.cell 2)) ?_)
              refine seqS1 (a' := ⟨#[.agg #[.int .i64 held1.Lo, .int .i64 held1.Hi, .bool held1.Unknown], .agg #[.int .i64 dark2.Lo, .int .i64 dark2.Hi, .bool dark2.Unknown], .agg #[.int .i64 flat3.Lo, .int .i64 flat3.Hi, .bool flat3.Unknown], .int .i64 beats4, .pointer (some ⟨b7, 0, none⟩), .pointer (some ⟨b11, 0, none⟩), .pointer (some ⟨b15, 0, none⟩), undef, .pointer (some ⟨b19, 0, none⟩), .pointer (some ⟨b49, 0, none⟩), .pointer (some ⟨b147, 0, none⟩), undef, undef, undef, undef, .agg #[.int .i64 held1.Lo, .int .i64 held1.Hi, .bool held1.Unknown], .agg #[.int .i64 vt25.Lo, .int .i64 vt25.Hi, .bool vt25.Unknown], .agg #[.int .i64 vt31.Lo, .int .i64 vt31.Hi, .bool vt31.Unknown], .agg #[.int .i64 vt37.Lo, .int .i64 vt37.Hi, .bool vt37.Unknown], .agg #[.int .i64 vt43.Lo, .int .i64 vt43.Hi, .bool vt43.Unknown], .agg #[.int .i64 flat3.Lo, .int .i64 flat3.Hi, .bool flat3.Unknown], .agg #[.int .i64 vt57.Lo, .int .i64 vt57.Hi, .bool vt57.Unknown], .int .i64 beats4, .bool false, .bool false, .int .i64 beats4, .bool false, .bool false, .bool false, .pointer (some ⟨b15, 2, none⟩), .bool false, .bool false, .bool false, .pointer (some ⟨b15, 0, none⟩), .int .i64 vt57.Lo, .bool false, .bool false, .bool false, .pointer (some ⟨b15, 1, none⟩), .int .i64 vt57.Hi, .bool false, .bool false, undef, .agg #[.int .i64 vt43.Lo, .int .i64 vt43.Hi, .bool vt43.Unknown], .agg #[.int .i64 dark2.Lo, .int .i64 dark2.Hi, .bool dark2.Unknown], .int .i64 beats4, .agg #[.int .i64 vt135.Lo, .int .i64 vt135.Hi, .bool vt135.Unknown], .agg #[.int .i64 vt141.Lo, .int .i64 vt141.Hi, .bool vt141.Unknown], .pointer (some ⟨b147, 2, none⟩), .bool vt141.Unknown, .bool vt141.Unknown, undef, undef, undef, undef, undef, undef, undef, undef, undef, undef, undef, undef, undef, undef, undef, undef, undef, undef, undef, undef, undef, undef, undef, undef, undef, undef, undef], []⟩) (by kernel_rfl) ?_
              have hq_ := ite_some h; clear h; rcases hq_ with ⟨c201, h⟩ | ⟨c201, h⟩
              · have c201 : vt141.Unknown = true := c201
                refine seqRwI 49 (x := vt141.Unknown) (v := true) (by kernel_rfl) c201 ?_
                refine seqRwI 50 (x := vt141.Unknown) (v := true) (by kernel_rfl) c201 ?_
                refine seqS4 (a' := ⟨#[.agg #[.int .i64 held1.Lo, .int .i64 held1.Hi, .bool held1.Unknown], .agg #[.int .i64 dark2.Lo, .int .i64 dark2.Hi, .bool dark2.Unknown], .agg #[.int .i64 flat3.Lo, .int .i64 flat3.Hi, .bool flat3.Unknown], .int .i64 beats4, .pointer (some ⟨b7, 0, none⟩), .pointer (some ⟨b11, 0, none⟩), .pointer (some ⟨b15, 0, none⟩), undef, .pointer (some ⟨b19, 0, none⟩), .pointer (some ⟨b49, 0, none⟩), .pointer (some ⟨b147, 0, none⟩), undef, undef, undef, undef, .agg #[.int .i64 held1.Lo, .int .i64 held1.Hi, .bool held1.Unknown], .agg #[.int .i64 vt25.Lo, .int .i64 vt25.Hi, .bool vt25.Unknown], .agg #[.int .i64 vt31.Lo, .int .i64 vt31.Hi, .bool vt31.Unknown], .agg #[.int .i64 vt37.Lo, .int .i64 vt37.Hi, .bool vt37.Unknown], .agg #[.int .i64 vt43.Lo, .int .i64 vt43.Hi, .bool vt43.Unknown], .agg #[.int .i64 flat3.Lo, .int .i64 flat3.Hi, .bool flat3.Unknown], .agg #[.int .i64 vt57.Lo, .int .i64 vt57.Hi, .bool vt57.Unknown], .int .i64 beats4, .bool false, .bool false, .int .i64 beats4, .bool false, .bool false, .bool false, .pointer (some ⟨b15, 2, none⟩), .bool false, .bool false, .bool false, .pointer (some ⟨b15, 0, none⟩), .int .i64 vt57.Lo, .bool false, .bool false, .bool false, .pointer (some ⟨b15, 1, none⟩), .int .i64 vt57.Hi, .bool false, .bool false, undef, .agg #[.int .i64 vt43.Lo, .int .i64 vt43.Hi, .bool vt43.Unknown], .agg #[.int .i64 dark2.Lo, .int .i64 dark2.Hi, .bool dark2.Unknown], .int .i64 beats4, .agg #[.int .i64 vt135.Lo, .int .i64 vt135.Hi, .bool vt135.Unknown], .agg #[.int .i64 vt141.Lo, .int .i64 vt141.Hi, .bool vt141.Unknown], .pointer (some ⟨b147, 2, none⟩), .bool true, .bool true, undef, undef, undef, .bool true, undef, undef, undef, undef, undef, undef, undef, undef, undef, undef, undef, undef, undef, undef, undef, undef, undef, undef, undef, undef, undef, undef, undef], []⟩) (by kernel_rfl) ?_
                refine wpList_nil ?_
                refine hK200 _ _ ?_
                refine condT (by kernel_rfl) ?_
                refine wp_seq_k (fun K202 hK203 => ?_)
                refine wp_region_lit ?_
                have hq_ := bind_some h; clear h; obtain ⟨vt204, hc205, h⟩ := hq_
                refine seqK rfl (does_call (f := 32) (args := #[]) (by kernel_rfl) (bound_None_Quanta.calls k  HS158 vt204 hc205) ?_)
                rintro _ W208 ⟨f206, rfl, L207, HS209⟩
                refine ⟨_, rfl, ?_⟩
                have HS210 := HS209.u3
                refine seqK rfl (does_store (n := 3) (vs := [.int .i64 vt204.Lo, .int .i64 vt204.Hi, .bool vt204.Unknown]) (cs' := #[.int .i64 vt204.Lo, .int .i64 vt204.Hi, .bool vt204.Unknown]) rfl (by kernel_rfl) (by kernel_rfl : _ = Value.pointer (some ⟨b19, 0, none⟩)) (by kernel_rfl : _ = Value.agg #[.int .i64 vt204.Lo, .int .i64 vt204.Hi, .bool vt204.Unknown]) rfl rfl (by intro u_ hu_; simp only [List.mem_cons, List.not_mem_nil, or_false] at hu_; rcases hu_ with rfl | rfl | rfl <;> rfl) HS210 (Nat.le_of_ble_eq_true rfl) (by kernel_rfl) ?_)
                intro W211 HS212
                refine wpList_nil ?_
                refine hK203 _ _ ?_
                refine wp_ret ?_
                refine hret _ _ ?_
                refine ends (v := Value.agg #[.int .i64 vt204.Lo, .int .i64 vt204.Hi, .bool vt204.Unknown]) (results1 (q1 := .cell 8 44) (by kernel_rfl) (resN (n := 3) (cs := [.int .i64 vt204.Lo, .int .i64 vt204.Hi, .bool vt204.Unknown]) (by kernel_rfl : _ = Value.pointer (some ⟨b19, 0, none⟩)) Try.underlying44 rfl (by kernel_rfl) rfl (HS212.cells 0 3 _ rfl))) (by kernel_rfl) ?_
                have HS280 := HS212.drop
                have HS281 := HS280.drop
                have HS282 := HS281.drop
                have HS283 := HS282.drop
                have HS284 := HS283.drop
                have HS285 := HS284.drop
                injection h with h
                subst h
                exact ⟨f206, rfl, (L28.trans (L34.trans (L40.trans (L46.trans (L60.trans (L138.trans (L144.trans L207))))))), HS285⟩
              · have c201 : ¬ (vt141.Unknown = true) := c201
                refine seqRwI 49 (x := vt141.Unknown) (v := false) (by kernel_rfl) (Bool.eq_false_iff.mpr c201) ?_
                refine seqRwI 50 (x := vt141.Unknown) (v := false) (by kernel_rfl) (Bool.eq_false_iff.mpr c201) ?_
                refine seqL1 (by kernel_rfl) ?_
                refine seqG (by kernel_rfl) (does_run (run_load rfl Try.underlying52 rfl (by kernel_rfl : _ = Value.pointer (some ⟨b147, 1, none⟩)) (HS158.cell 1)) ?_)
                refine seqS2 (a' := ⟨#[.agg #[.int .i64 held1.Lo, .int .i64 held1.Hi, .bool held1.Unknown], .agg #[.int .i64 dark2.Lo, .int .i64 dark2.Hi, .bool dark2.Unknown], .agg #[.int .i64 flat3.Lo, .int .i64 flat3.Hi, .bool flat3.Unknown], .int .i64 beats4, .pointer (some ⟨b7, 0, none⟩), .pointer (some ⟨b11, 0, none⟩), .pointer (some ⟨b15, 0, none⟩), undef, .pointer (some ⟨b19, 0, none⟩), .pointer (some ⟨b49, 0, none⟩), .pointer (some ⟨b147, 0, none⟩), undef, undef, undef, undef, .agg #[.int .i64 held1.Lo, .int .i64 held1.Hi, .bool held1.Unknown], .agg #[.int .i64 vt25.Lo, .int .i64 vt25.Hi, .bool vt25.Unknown], .agg #[.int .i64 vt31.Lo, .int .i64 vt31.Hi, .bool vt31.Unknown], .agg #[.int .i64 vt37.Lo, .int .i64 vt37.Hi, .bool vt37.Unknown], .agg #[.int .i64 vt43.Lo, .int .i64 vt43.Hi, .bool vt43.Unknown], .agg #[.int .i64 flat3.Lo, .int .i64 flat3.Hi, .bool flat3.Unknown], .agg #[.int .i64 vt57.Lo, .int .i64 vt57.Hi, .bool vt57.Unknown], .int .i64 beats4, .bool false, .bool false, .int .i64 beats4, .bool false, .bool false, .bool false, .pointer (some ⟨b15, 2, none⟩), .bool false, .bool false, .bool false, .pointer (some ⟨b15, 0, none⟩), .int .i64 vt57.Lo, .bool false, .bool false, .bool false, .pointer (some ⟨b15, 1, none⟩), .int .i64 vt57.Hi, .bool false, .bool false, undef, .agg #[.int .i64 vt43.Lo, .int .i64 vt43.Hi, .bool vt43.Unknown], .agg #[.int .i64 dark2.Lo, .int .i64 dark2.Hi, .bool dark2.Unknown], .int .i64 beats4, .agg #[.int .i64 vt135.Lo, .int .i64 vt135.Hi, .bool vt135.Unknown], .agg #[.int .i64 vt141.Lo, .int .i64 vt141.Hi, .bool vt141.Unknown], .pointer (some ⟨b147, 2, none⟩), .bool false, .bool false, .pointer (some ⟨b147, 1, none⟩), .int .i64 vt141.Hi, .bool (decide (vt141.Hi < 0)), .bool (decide (vt141.Hi < 0)), undef, undef, undef, undef, undef, undef, undef, undef, undef, undef, undef, undef, undef, undef, undef, undef, undef, undef, undef, undef, undef, undef, undef], []⟩) (by kernel_rfl) ?_
                refine wpList_nil ?_
                refine hK200 _ _ ?_
                have hq_ := ite_some h; clear h; rcases hq_ with ⟨c214, h⟩ | ⟨c214, h⟩
                · have c214 : vt141.Hi < 0 := c214
                  refine wpRwI 53 (x := (decide (vt141.Hi < 0))) (v := true) (by kernel_rfl) (decide_eq_true c214) ?_
                  refine wpRwI 54 (x := (decide (vt141.Hi < 0))) (v := true) (by kernel_rfl) (decide_eq_true c214) ?_
                  refine condT (by kernel_rfl) ?_
                  refine wp_seq_k (fun K215 hK216 => ?_)
                  refine wp_region_lit ?_
                  have hq_ := bind_some h; clear h; obtain ⟨vt217, hc218, h⟩ := hq_
                  refine seqK rfl (does_call (f := 32) (args := #[]) (by kernel_rfl) (bound_None_Quanta.calls k  HS158 vt217 hc218) ?_)
                  rintro _ W221 ⟨f219, rfl, L220, HS222⟩
                  refine ⟨_, rfl, ?_⟩
                  have HS223 := HS222.u3
                  refine seqK rfl (does_store (n := 3) (vs := [.int .i64 vt217.Lo, .int .i64 vt217.Hi, .bool vt217.Unknown]) (cs' := #[.int .i64 vt217.Lo, .int .i64 vt217.Hi, .bool vt217.Unknown]) rfl (by kernel_rfl) (by kernel_rfl : _ = Value.pointer (some ⟨b19, 0, none⟩)) (by kernel_rfl : _ = Value.agg #[.int .i64 vt217.Lo, .int .i64 vt217.Hi, .bool vt217.Unknown]) rfl rfl (by intro u_ hu_; simp only [List.mem_cons, List.not_mem_nil, or_false] at hu_; rcases hu_ with rfl | rfl | rfl <;> rfl) HS223 (Nat.le_of_ble_eq_true rfl) (by kernel_rfl) ?_)
                  intro W224 HS225
                  refine wpList_nil ?_
                  refine hK216 _ _ ?_
                  refine wp_ret ?_
                  refine hret _ _ ?_
                  refine ends (v := Value.agg #[.int .i64 vt217.Lo, .int .i64 vt217.Hi, .bool vt217.Unknown]) (results1 (q1 := .cell 8 44) (by kernel_rfl) (resN (n := 3) (cs := [.int .i64 vt217.Lo, .int .i64 vt217.Hi, .bool vt217.Unknown]) (by kernel_rfl : _ = Value.pointer (some ⟨b19, 0, none⟩)) Try.underlying44 rfl (by kernel_rfl) rfl (HS225.cells 0 3 _ rfl))) (by kernel_rfl) ?_
                  have HS286 := HS225.drop
                  have HS287 := HS286.drop
                  have HS288 := HS287.drop
                  have HS289 := HS288.drop
                  have HS290 := HS289.drop
                  have HS291 := HS290.drop
                  injection h with h
                  subst h
                  exact ⟨f219, rfl, (L28.trans (L34.trans (L40.trans (L46.trans (L60.trans (L138.trans (L144.trans L220))))))), HS291⟩
                · have c214 : ¬ (vt141.Hi < 0) := c214
                  refine wpRwI 53 (x := (decide (vt141.Hi < 0))) (v := false) (by kernel_rfl) (decide_eq_false c214) ?_
                  refine wpRwI 54 (x := (decide (vt141.Hi < 0))) (v := false) (by kernel_rfl) (decide_eq_false c214) ?_
                  refine condF (by kernel_rfl) ?_
                  refine wp_skip ?_
                  refine hK198 _ _ ?_
                  refine wp_seq_k (fun K226 hK227 => ?_)
                  refine wp_region_lit ?_
                  refine seqL1 (by kernel_rfl) ?_
                  refine seqK rfl (does_run (run_load rfl Try.underlying52 rfl (by kernel_rfl : _ = Value.pointer (some ⟨b147, 0, none⟩)) (HS158.cell 0)) ?_)
                  refine seqL2 (by kernel_rfl) ?_
                  refine seqK rfl (does_run (run_load rfl Try.underlying56 rfl (by kernel_rfl : _ = Value.pointer (some ⟨b15, 1, none⟩)) (HS158.u1.cell 1)) ?_)
                  have hq_ := bind_some h; clear h; obtain ⟨⟨vt228, vt229⟩, hc230, h⟩ := hq_
                  refine seqL1 (by kernel_rfl) ?_
                  refine seqK rfl (does_call (f := 52) (args := #[.int .i64 (mx 0 vt141.Lo), .int .i64 4096, .int .i64 (w64 (vt57.Hi * 16777216))]) (by kernel_rfl) (num_MulDiv.calls k (mx 0 vt141.Lo) 4096 (w64 (vt57.Hi * 16777216)) HS158 vt228 vt229 hc230) ?_)
                  rintro _ W233 ⟨f231, rfl, L232, HS234⟩
                  refine ⟨_, rfl, ?_⟩
                  refine seqS5 (a' := ⟨#[.agg #[.int .i64 held1.Lo, .int .i64 held1.Hi, .bool held1.Unknown], .agg #[.int .i64 dark2.Lo, .int .i64 dark2.Hi, .bool dark2.Unknown], .agg #[.int .i64 flat3.Lo, .int .i64 flat3.Hi, .bool flat3.Unknown], .int .i64 beats4, .pointer (some ⟨b7, 0, none⟩), .pointer (some ⟨b11, 0, none⟩), .pointer (some ⟨b15, 0, none⟩), undef, .pointer (some ⟨b19, 0, none⟩), .pointer (some ⟨b49, 0, none⟩), .pointer (some ⟨b147, 0, none⟩), .int .i64 vt228, .int .i64 vt229, undef, undef, .agg #[.int .i64 held1.Lo, .int .i64 held1.Hi, .bool held1.Unknown], .agg #[.int .i64 vt25.Lo, .int .i64 vt25.Hi, .bool vt25.Unknown], .agg #[.int .i64 vt31.Lo, .int .i64 vt31.Hi, .bool vt31.Unknown], .agg #[.int .i64 vt37.Lo, .int .i64 vt37.Hi, .bool vt37.Unknown], .agg #[.int .i64 vt43.Lo, .int .i64 vt43.Hi, .bool vt43.Unknown], .agg #[.int .i64 flat3.Lo, .int .i64 flat3.Hi, .bool flat3.Unknown], .agg #[.int .i64 vt57.Lo, .int .i64 vt57.Hi, .bool vt57.Unknown], .int .i64 beats4, .bool false, .bool false, .int .i64 beats4, .bool false, .bool false, .bool false, .pointer (some ⟨b15, 2, none⟩), .bool false, .bool false, .bool false, .pointer (some ⟨b15, 0, none⟩), .int .i64 vt57.Lo, .bool false, .bool false, .bool false, .pointer (some ⟨b15, 1, none⟩), .int .i64 vt57.Hi, .bool false, .bool false, undef, .agg #[.int .i64 vt43.Lo, .int .i64 vt43.Hi, .bool vt43.Unknown], .agg #[.int .i64 dark2.Lo, .int .i64 dark2.Hi, .bool dark2.Unknown], .int .i64 beats4, .agg #[.int .i64 vt135.Lo, .int .i64 vt135.Hi, .bool vt135.Unknown], .agg #[.int .i64 vt141.Lo, .int .i64 vt141.Hi, .bool vt141.Unknown], .pointer (some ⟨b147, 2, none⟩), .bool false, .bool false, .pointer (some ⟨b147, 1, none⟩), .int .i64 vt141.Hi, .bool false, .bool false, undef, .tuple #[.int .i64 vt228, .int .i64 vt229], .pointer (some ⟨b147, 0, none⟩), .int .i64 vt141.Lo, .int .i64 (mx 0 vt141.Lo), .pointer (some ⟨b15, 1, none⟩), .int .i64 vt57.Hi, .int .i64 (w64 (vt57.Hi * 16777216)), .tuple #[.int .i64 vt228, .int .i64 vt229], .int .i64 vt228, .int .i64 vt229, undef, undef, undef, undef, undef, undef, undef, undef, undef, undef, undef, undef], []⟩) (by kernel_rfl) ?_
                  refine wpList_nil ?_
                  refine hK227 _ _ ?_
                  refine wp_seq_k (fun K235 hK236 => ?_)
                  refine wp_region_lit ?_
                  refine seqL1 (by kernel_rfl) ?_
                  refine seqK rfl (does_run (run_load rfl Try.underlying52 rfl (by kernel_rfl : _ = Value.pointer (some ⟨b147, 1, none⟩)) (HS234.cell 1)) ?_)
                  refine seqL1 (by kernel_rfl) ?_
                  refine seqK rfl (does_run (run_load rfl Try.underlying56 rfl (by kernel_rfl : _ = Value.pointer (some ⟨b15, 0, none⟩)) (HS234.u1.cell 0)) ?_)
                  have hq_ := bind_some h; clear h; obtain ⟨⟨vt237, vt238⟩, hc239, h⟩ := hq_
                  refine seqL1 (by kernel_rfl) ?_
                  refine seqK rfl (does_call (f := 53) (args := #[.int .i64 vt141.Hi, .int .i64 4096, .int .i64 (w64 (vt57.Lo * 16777216))]) (by kernel_rfl) (num_MulDivUp.calls k vt141.Hi 4096 (w64 (vt57.Lo * 16777216)) HS234 vt237 vt238 hc239) ?_)
                  rintro _ W242 ⟨f240, rfl, L241, HS243⟩
                  refine ⟨_, rfl, ?_⟩
                  refine seqS5 (a' := ⟨#[.agg #[.int .i64 held1.Lo, .int .i64 held1.Hi, .bool held1.Unknown], .agg #[.int .i64 dark2.Lo, .int .i64 dark2.Hi, .bool dark2.Unknown], .agg #[.int .i64 flat3.Lo, .int .i64 flat3.Hi, .bool flat3.Unknown], .int .i64 beats4, .pointer (some ⟨b7, 0, none⟩), .pointer (some ⟨b11, 0, none⟩), .pointer (some ⟨b15, 0, none⟩), undef, .pointer (some ⟨b19, 0, none⟩), .pointer (some ⟨b49, 0, none⟩), .pointer (some ⟨b147, 0, none⟩), .int .i64 vt228, .int .i64 vt229, .int .i64 vt237, .int .i64 vt238, .agg #[.int .i64 held1.Lo, .int .i64 held1.Hi, .bool held1.Unknown], .agg #[.int .i64 vt25.Lo, .int .i64 vt25.Hi, .bool vt25.Unknown], .agg #[.int .i64 vt31.Lo, .int .i64 vt31.Hi, .bool vt31.Unknown], .agg #[.int .i64 vt37.Lo, .int .i64 vt37.Hi, .bool vt37.Unknown], .agg #[.int .i64 vt43.Lo, .int .i64 vt43.Hi, .bool vt43.Unknown], .agg #[.int .i64 flat3.Lo, .int .i64 flat3.Hi, .bool flat3.Unknown], .agg #[.int .i64 vt57.Lo, .int .i64 vt57.Hi, .bool vt57.Unknown], .int .i64 beats4, .bool false, .bool false, .int .i64 beats4, .bool false, .bool false, .bool false, .pointer (some ⟨b15, 2, none⟩), .bool false, .bool false, .bool false, .pointer (some ⟨b15, 0, none⟩), .int .i64 vt57.Lo, .bool false, .bool false, .bool false, .pointer (some ⟨b15, 1, none⟩), .int .i64 vt57.Hi, .bool false, .bool false, undef, .agg #[.int .i64 vt43.Lo, .int .i64 vt43.Hi, .bool vt43.Unknown], .agg #[.int .i64 dark2.Lo, .int .i64 dark2.Hi, .bool dark2.Unknown], .int .i64 beats4, .agg #[.int .i64 vt135.Lo, .int .i64 vt135.Hi, .bool vt135.Unknown], .agg #[.int .i64 vt141.Lo, .int .i64 vt141.Hi, .bool vt141.Unknown], .pointer (some ⟨b147, 2, none⟩), .bool false, .bool false, .pointer (some ⟨b147, 1, none⟩), .int .i64 vt141.Hi, .bool false, .bool false, undef, .tuple #[.int .i64 vt228, .int .i64 vt229], .pointer (some ⟨b147, 0, none⟩), .int .i64 vt141.Lo, .int .i64 (mx 0 vt141.Lo), .pointer (some ⟨b15, 1, none⟩), .int .i64 vt57.Hi, .int .i64 (w64 (vt57.Hi * 16777216)), .tuple #[.int .i64 vt228, .int .i64 vt229], .int .i64 vt228, .int .i64 vt229, .tuple #[.int .i64 vt237, .int .i64 vt238], .pointer (some ⟨b147, 1, none⟩), .int .i64 vt141.Hi, .pointer (some ⟨b15, 0, none⟩), .int .i64 vt57.Lo, .int .i64 (w64 (vt57.Lo * 16777216)), .tuple #[.int .i64 vt237, .int .i64 vt238], .int .i64 vt237, .int .i64 vt238, undef, undef, undef], []⟩) (by kernel_rfl) ?_
                  refine wpList_nil ?_
                  refine hK236 _ _ ?_
                  refine wp_seq_k (fun K244 hK245 => ?_)
                  refine wp_region_lit ?_
                  have hq_ := bind_some h; clear h; obtain ⟨vt246, hc247, h⟩ := hq_
                  refine seqL2 (by kernel_rfl) ?_
                  refine seqK rfl (does_call (f := 22) (args := #[.int .i64 vt228, .int .i64 vt237]) (by kernel_rfl) (bound_Of_Quanta.calls k vt228 vt237 HS243 vt246 hc247) ?_)
                  rintro _ W250 ⟨f248, rfl, L249, HS251⟩
                  refine ⟨_, rfl, ?_⟩
                  have HS252 := HS251.u3
                  refine seqK rfl (does_store (n := 3) (vs := [.int .i64 vt246.Lo, .int .i64 vt246.Hi, .bool vt246.Unknown]) (cs' := #[.int .i64 vt246.Lo, .int .i64 vt246.Hi, .bool vt246.Unknown]) rfl (by kernel_rfl) (by kernel_rfl : _ = Value.pointer (some ⟨b19, 0, none⟩)) (by kernel_rfl : _ = Value.agg #[.int .i64 vt246.Lo, .int .i64 vt246.Hi, .bool vt246.Unknown]) rfl rfl (by intro u_ hu_; simp only [List.mem_cons, List.not_mem_nil, or_false] at hu_; rcases hu_ with rfl | rfl | rfl <;> rfl) HS252 (Nat.le_of_ble_eq_true rfl) (by kernel_rfl) ?_)
                  intro W253 HS254
                  refine wpList_nil ?_
                  refine hK245 _ _ ?_
                  refine wp_ret ?_
                  refine hret _ _ ?_
                  refine ends (v := Value.agg #[.int .i64 vt246.Lo, .int .i64 vt246.Hi, .bool vt246.Unknown]) (results1 (q1 := .cell 8 44) (by kernel_rfl) (resN (n := 3) (cs := [.int .i64 vt246.Lo, .int .i64 vt246.Hi, .bool vt246.Unknown]) (by kernel_rfl : _ = Value.pointer (some ⟨b19, 0, none⟩)) Try.underlying44 rfl (by kernel_rfl) rfl (HS254.cells 0 3 _ rfl))) (by kernel_rfl) ?_
                  have HS292 := HS254.drop
                  have HS293 := HS292.drop
                  have HS294 := HS293.drop
                  have HS295 := HS294.drop
                  have HS296 := HS295.drop
                  have HS297 := HS296.drop
                  injection h with h
                  subst h
                  exact ⟨f248, rfl, (L28.trans (L34.trans (L40.trans (L46.trans (L60.trans (L138.trans (L144.trans (L232.trans (L241.trans L249))))))))), HS297⟩
            refine takeEither 3 5 (by kernel_rfl) rfl rfl rfl rfl ?_ ?_
            · refine does_call (f := 48) (args := #[.agg #[.int .i64 dark2.Lo, .int .i64 dark2.Hi, .bool dark2.Unknown], .int .i64 beats4, .int .i64 1]) (by kernel_rfl) (bound_Scale_Light.calls k dark2 beats4 1 HS134 vt135 hc136) ?_
              rintro _ W161 ⟨f159, rfl, L160, HS162⟩
              refine ⟨_, rfl, ?_⟩
              refine ⟨(Sg.g0 (Sx.of [] L160 HS162)), ?_⟩
              refine takeEither 4 5 (by kernel_rfl) rfl rfl rfl rfl ?_ ?_
              · refine does_call (f := 51) (args := #[.agg #[.int .i64 vt43.Lo, .int .i64 vt43.Hi, .bool vt43.Unknown], .agg #[.int .i64 vt135.Lo, .int .i64 vt135.Hi, .bool vt135.Unknown]]) (by kernel_rfl) (bound_Sub_Light.calls k vt43 vt135 HS162 vt141 hc142) ?_
                rintro _ W165 ⟨f163, rfl, L164, HS166⟩
                refine ⟨_, rfl, ?_⟩
                refine ⟨(Sg.g0 (Sx.of [] (L160.trans L164) HS166)), ?_⟩
                refine takeGE 5 (by kernel_rfl) rfl (by kernel_rfl) (does_alloc (z := Value.agg #[.int .i64 0, .int .i64 0, .bool false]) (cs := #[.int .i64 0, .int .i64 0, .bool false]) rfl (by kernel_rfl) rfl HS166 ?_)
                intro b167 W168 HS169
                refine ⟨(Sg.g0 (Sx.of [[(b167, .cells #[.int .i64 0, .int .i64 0, .bool false] 54 (0, 0))]] (L160.trans L164) HS169)), ?_⟩
                refine takeGE 6 (by kernel_rfl) rfl (by kernel_rfl) (does_store (n := 3) (vs := [.int .i64 vt141.Lo, .int .i64 vt141.Hi, .bool vt141.Unknown]) (cs' := #[.int .i64 vt141.Lo, .int .i64 vt141.Hi, .bool vt141.Unknown]) rfl (by kernel_rfl) (by kernel_rfl : _ = Value.pointer (some ⟨b167, 0, none⟩)) (by kernel_rfl : _ = Value.agg #[.int .i64 vt141.Lo, .int .i64 vt141.Hi, .bool vt141.Unknown]) rfl rfl (by intro u_ hu_; simp only [List.mem_cons, List.not_mem_nil, or_false] at hu_; rcases hu_ with rfl | rfl | rfl <;> rfl) HS169 (Nat.le_of_ble_eq_true rfl) (by kernel_rfl) ?_)
                intro W171 HS172
                refine ⟨(Sg.g0 (Sx.of [[(b167, .cells #[.int .i64 vt141.Lo, .int .i64 vt141.Hi, .bool vt141.Unknown] 54 (0, 0))]] (L160.trans L164) HS172)), ?_⟩
                refine hR155 _ _ ?_
                exact J156 f159 f163 b167 W171 _ L160 L164 HS172 (by kernel_rfl)
              · refine does_alloc (z := Value.agg #[.int .i64 0, .int .i64 0, .bool false]) (cs := #[.int .i64 0, .int .i64 0, .bool false]) rfl (by kernel_rfl) rfl HS162 ?_
                intro b173 W174 HS175
                refine ⟨(Sg.g0 (Sx.of [[(b173, .cells #[.int .i64 0, .int .i64 0, .bool false] 54 (0, 0))]] L160 HS175)), ?_⟩
                refine takeGE 4 (by kernel_rfl) rfl (by kernel_rfl) (does_call (f := 51) (args := #[.agg #[.int .i64 vt43.Lo, .int .i64 vt43.Hi, .bool vt43.Unknown], .agg #[.int .i64 vt135.Lo, .int .i64 vt135.Hi, .bool vt135.Unknown]]) (by kernel_rfl) (bound_Sub_Light.calls k vt43 vt135 HS175 vt141 hc142) ?_)
                rintro _ W179 ⟨f177, rfl, L178, HS180⟩
                refine ⟨_, rfl, ?_⟩
                refine ⟨(Sg.g0 (Sx.of [[(b173, .cells #[.int .i64 0, .int .i64 0, .bool false] 54 (0, 0))]] (L160.trans L178) HS180)), ?_⟩
                refine takeGE 6 (by kernel_rfl) rfl (by kernel_rfl) (does_store (n := 3) (vs := [.int .i64 vt141.Lo, .int .i64 vt141.Hi, .bool vt141.Unknown]) (cs' := #[.int .i64 vt141.Lo, .int .i64 vt141.Hi, .bool vt141.Unknown]) rfl (by kernel_rfl) (by kernel_rfl : _ = Value.pointer (some ⟨b173, 0, none⟩)) (by kernel_rfl : _ = Value.agg #[.int .i64 vt141.Lo, .int .i64 vt141.Hi, .bool vt141.Unknown]) rfl rfl (by intro u_ hu_; simp only [List.mem_cons, List.not_mem_nil, or_false] at hu_; rcases hu_ with rfl | rfl | rfl <;> rfl) HS180 (Nat.le_of_ble_eq_true rfl) (by kernel_rfl) ?_)
                intro W181 HS182
                refine ⟨(Sg.g0 (Sx.of [[(b173, .cells #[.int .i64 vt141.Lo, .int .i64 vt141.Hi, .bool vt141.Unknown] 54 (0, 0))]] (L160.trans L178) HS182)), ?_⟩
                refine hR155 _ _ ?_
                exact J156 f159 f177 b173 W181 _ L160 L178 HS182 (by kernel_rfl)
            · refine does_alloc (z := Value.agg #[.int .i64 0, .int .i64 0, .bool false]) (cs := #[.int .i64 0, .int .i64 0, .bool false]) rfl (by kernel_rfl) rfl HS134 ?_
              intro b183 W184 HS185
              refine ⟨(Sg.g0 (Sx.of [[(b183, .cells #[.int .i64 0, .int .i64 0, .bool false] 54 (0, 0))]] (FM.le.refl _) HS185)), ?_⟩
              refine takeGE 3 (by kernel_rfl) rfl (by kernel_rfl) (does_call (f := 48) (args := #[.agg #[.int .i64 dark2.Lo, .int .i64 dark2.Hi, .bool dark2.Unknown], .int .i64 beats4, .int .i64 1]) (by kernel_rfl) (bound_Scale_Light.calls k dark2 beats4 1 HS185 vt135 hc136) ?_)
              rintro _ W189 ⟨f187, rfl, L188, HS190⟩
              refine ⟨_, rfl, ?_⟩
              refine ⟨(Sg.g0 (Sx.of [[(b183, .cells #[.int .i64 0, .int .i64 0, .bool false] 54 (0, 0))]] L188 HS190)), ?_⟩
              refine takeGE 4 (by kernel_rfl) rfl (by kernel_rfl) (does_call (f := 51) (args := #[.agg #[.int .i64 vt43.Lo, .int .i64 vt43.Hi, .bool vt43.Unknown], .agg #[.int .i64 vt135.Lo, .int .i64 vt135.Hi, .bool vt135.Unknown]]) (by kernel_rfl) (bound_Sub_Light.calls k vt43 vt135 HS190 vt141 hc142) ?_)
              rintro _ W193 ⟨f191, rfl, L192, HS194⟩
              refine ⟨_, rfl, ?_⟩
              refine ⟨(Sg.g0 (Sx.of [[(b183, .cells #[.int .i64 0, .int .i64 0, .bool false] 54 (0, 0))]] (L188.trans L192) HS194)), ?_⟩
              refine takeGE 6 (by kernel_rfl) rfl (by kernel_rfl) (does_store (n := 3) (vs := [.int .i64 vt141.Lo, .int .i64 vt141.Hi, .bool vt141.Unknown]) (cs' := #[.int .i64 vt141.Lo, .int .i64 vt141.Hi, .bool vt141.Unknown]) rfl (by kernel_rfl) (by kernel_rfl : _ = Value.pointer (some ⟨b183, 0, none⟩)) (by kernel_rfl : _ = Value.agg #[.int .i64 vt141.Lo, .int .i64 vt141.Hi, .bool vt141.Unknown]) rfl rfl (by intro u_ hu_; simp only [List.mem_cons, List.not_mem_nil, or_false] at hu_; rcases hu_ with rfl | rfl | rfl <;> rfl) HS194 (Nat.le_of_ble_eq_true rfl) (by kernel_rfl) ?_)
              intro W195 HS196
              refine ⟨(Sg.g0 (Sx.of [[(b183, .cells #[.int .i64 vt141.Lo, .int .i64 vt141.Hi, .bool vt141.Unknown] 54 (0, 0))]] (L188.trans L192) HS196)), ?_⟩
              refine hR155 _ _ ?_
              exact J156 f187 f191 b183 W195 _ L188 L192 HS196 (by kernel_rfl)

set_option maxRecDepth 100000 in
set_option maxHeartbeats 4000000 in
theorem bound_Exact_Quanta.calls (k : Nat)  (v1 : Int) {t w : World} {f : FM} {H : List Seg} (HS : St t w f (H)) (r1 : S_Bound) (h : bound_Exact_Quanta k v1 = some r1) :
    Calls Try.prog 30 #[.int .i64 v1] w (fun e w' => ∃ (g : FM), e = .returned (Value.agg #[.int .i64 r1.Lo, .int .i64 r1.Hi, .bool r1.Unknown]) ∧ FM.le f g ∧ St t w' g (H)) := by
  unfold bound_Exact_Quanta at h
  refine enter Try.func30 rfl (tm := #[.int .i64 v1, undef, undef, undef, undef, undef]) (by kernel_rfl) ?_
  intro B hret hnor hnp
  refine wp_seq_k (fun K2 hK3 => ?_)
  refine wp_region_lit ?_
  refine seqK rfl (does_alloc (z := Value.agg #[.int .i64 0, .int .i64 0, .bool false]) (cs := #[.int .i64 0, .int .i64 0, .bool false]) rfl (by kernel_rfl) rfl HS ?_)
  intro b4 W5 HS6
  refine wpList_nil ?_
  refine hK3 _ _ ?_
  refine wp_seq_k (fun K8 hK9 => ?_)
  refine wp_region_lit ?_
  have hq_ := bind_some h; clear h; obtain ⟨vt10, hc11, h⟩ := hq_
  refine seqL2 (by kernel_rfl) ?_
  refine seqK rfl (does_call (f := 22) (args := #[.int .i64 v1, .int .i64 v1]) (by kernel_rfl) (bound_Of_Quanta.calls k v1 v1 HS6 vt10 hc11) ?_)
  rintro _ W14 ⟨f12, rfl, L13, HS15⟩
  refine ⟨_, rfl, ?_⟩
  refine seqK rfl (does_store (n := 3) (vs := [.int .i64 vt10.Lo, .int .i64 vt10.Hi, .bool vt10.Unknown]) (cs' := #[.int .i64 vt10.Lo, .int .i64 vt10.Hi, .bool vt10.Unknown]) rfl (by kernel_rfl) (by kernel_rfl : _ = Value.pointer (some ⟨b4, 0, none⟩)) (by kernel_rfl : _ = Value.agg #[.int .i64 vt10.Lo, .int .i64 vt10.Hi, .bool vt10.Unknown]) rfl rfl (by intro u_ hu_; simp only [List.mem_cons, List.not_mem_nil, or_false] at hu_; rcases hu_ with rfl | rfl | rfl <;> rfl) HS15 (Nat.le_of_ble_eq_true rfl) (by kernel_rfl) ?_)
  intro W16 HS17
  refine wpList_nil ?_
  refine hK9 _ _ ?_
  refine wp_ret ?_
  refine hret _ _ ?_
  refine ends (v := Value.agg #[.int .i64 vt10.Lo, .int .i64 vt10.Hi, .bool vt10.Unknown]) (results1 (q1 := .cell 2 44) (by kernel_rfl) (resN (n := 3) (cs := [.int .i64 vt10.Lo, .int .i64 vt10.Hi, .bool vt10.Unknown]) (by kernel_rfl : _ = Value.pointer (some ⟨b4, 0, none⟩)) Try.underlying44 rfl (by kernel_rfl) rfl (HS17.cells 0 3 _ rfl))) (by kernel_rfl) ?_
  have HS18 := HS17.drop
  injection h with h
  subst h
  exact ⟨f12, rfl, L13, HS18⟩

set_option maxRecDepth 100000 in
set_option maxHeartbeats 4000000 in
theorem bound_Exact_Part.calls (k : Nat)  (v1 : Int) {t w : World} {f : FM} {H : List Seg} (HS : St t w f (H)) (r1 : S_Bound) (h : bound_Exact_Part k v1 = some r1) :
    Calls Try.prog 54 #[.int .i64 v1] w (fun e w' => ∃ (g : FM), e = .returned (Value.agg #[.int .i64 r1.Lo, .int .i64 r1.Hi, .bool r1.Unknown]) ∧ FM.le f g ∧ St t w' g (H)) := by
  unfold bound_Exact_Part at h
  refine enter Try.func54 rfl (tm := #[.int .i64 v1, undef, undef, undef, undef, undef]) (by kernel_rfl) ?_
  intro B hret hnor hnp
  refine wp_seq_k (fun K2 hK3 => ?_)
  refine wp_region_lit ?_
  refine seqK rfl (does_alloc (z := Value.agg #[.int .i64 0, .int .i64 0, .bool false]) (cs := #[.int .i64 0, .int .i64 0, .bool false]) rfl (by kernel_rfl) rfl HS ?_)
  intro b4 W5 HS6
  refine wpList_nil ?_
  refine hK3 _ _ ?_
  refine wp_seq_k (fun K8 hK9 => ?_)
  refine wp_region_lit ?_
  have hq_ := bind_some h; clear h; obtain ⟨vt10, hc11, h⟩ := hq_
  refine seqL2 (by kernel_rfl) ?_
  refine seqK rfl (does_call (f := 24) (args := #[.int .i64 v1, .int .i64 v1]) (by kernel_rfl) (bound_Of_Part.calls k v1 v1 HS6 vt10 hc11) ?_)
  rintro _ W14 ⟨f12, rfl, L13, HS15⟩
  refine ⟨_, rfl, ?_⟩
  refine seqK rfl (does_store (n := 3) (vs := [.int .i64 vt10.Lo, .int .i64 vt10.Hi, .bool vt10.Unknown]) (cs' := #[.int .i64 vt10.Lo, .int .i64 vt10.Hi, .bool vt10.Unknown]) rfl (by kernel_rfl) (by kernel_rfl : _ = Value.pointer (some ⟨b4, 0, none⟩)) (by kernel_rfl : _ = Value.agg #[.int .i64 vt10.Lo, .int .i64 vt10.Hi, .bool vt10.Unknown]) rfl rfl (by intro u_ hu_; simp only [List.mem_cons, List.not_mem_nil, or_false] at hu_; rcases hu_ with rfl | rfl | rfl <;> rfl) HS15 (Nat.le_of_ble_eq_true rfl) (by kernel_rfl) ?_)
  intro W16 HS17
  refine wpList_nil ?_
  refine hK9 _ _ ?_
  refine wp_ret ?_
  refine hret _ _ ?_
  refine ends (v := Value.agg #[.int .i64 vt10.Lo, .int .i64 vt10.Hi, .bool vt10.Unknown]) (results1 (q1 := .cell 2 58) (by kernel_rfl) (resN (n := 3) (cs := [.int .i64 vt10.Lo, .int .i64 vt10.Hi, .bool vt10.Unknown]) (by kernel_rfl : _ = Value.pointer (some ⟨b4, 0, none⟩)) Try.underlying58 rfl (by kernel_rfl) rfl (HS17.cells 0 3 _ rfl))) (by kernel_rfl) ?_
  have HS18 := HS17.drop
  injection h with h
  subst h
  exact ⟨f12, rfl, L13, HS18⟩

set_option maxRecDepth 100000 in
set_option maxHeartbeats 4000000 in
theorem spykeep3_calibrated.calls (k : Nat)   {t w : World} {f : FM} {H : List Seg} (HS : St t w f (H)) (r1 : Bool) (h : spykeep3_calibrated k = some r1) :
    Calls Try.prog 27 #[] w (fun e w' => ∃ (g : FM), e = .returned (Value.bool r1) ∧ FM.le f g ∧ St t w' g (H)) := by
  unfold spykeep3_calibrated at h
  refine enter Try.func27 rfl (tm := #[undef, undef, undef, undef, undef, undef, undef, undef, undef]) (by kernel_rfl) ?_
  intro B hret hnor hnp
  refine wp_seq_k (fun K1 hK2 => ?_)
  refine wp_region_lit ?_
  refine seqS1 (a' := ⟨#[.bool false, undef, undef, undef, undef, undef, undef, undef, undef], []⟩) (by kernel_rfl) ?_
  refine wpList_nil ?_
  refine hK2 _ _ ?_
  refine wp_seq_k (fun K3 hK4 => ?_)
  refine wp_region_lit ?_
  have hq_ := bind_some h; clear h; obtain ⟨vt5, hc6, h⟩ := hq_
  refine seqK rfl (does_call (f := 30) (args := #[.int .i64 0]) (by kernel_rfl) (bound_Exact_Quanta.calls k 0 HS vt5 hc6) ?_)
  rintro _ W9 ⟨f7, rfl, L8, HS10⟩
  refine ⟨_, rfl, ?_⟩
  have hq_ := bind_some h; clear h; obtain ⟨vt11, hc12, h⟩ := hq_
  refine seqL1 (by kernel_rfl) ?_
  refine seqK rfl (does_call (f := 54) (args := #[.int .i64 4096]) (by kernel_rfl) (bound_Exact_Part.calls k 4096 HS10 vt11 hc12) ?_)
  rintro _ W15 ⟨f13, rfl, L14, HS16⟩
  refine ⟨_, rfl, ?_⟩
  have hq_ := bind_some h; clear h; obtain ⟨vt17, hc18, h⟩ := hq_
  refine seqK rfl (does_call (f := 26) (args := #[.agg #[.int .i64 vt5.Lo, .int .i64 vt5.Hi, .bool vt5.Unknown], .agg #[.int .i64 0, .int .i64 0, .bool false], .agg #[.int .i64 vt11.Lo, .int .i64 vt11.Hi, .bool vt11.Unknown], .int .i64 2]) (by kernel_rfl) (calib_Light.calls k vt5 (⟨0, 0, false⟩ : S_Bound) vt11 2 HS16 vt17 hc18) ?_)
  rintro _ W21 ⟨f19, rfl, L20, HS22⟩
  refine ⟨_, rfl, ?_⟩
  refine seqK rfl (does_alloc (z := Value.agg #[.int .i64 0, .int .i64 0, .bool false]) (cs := #[.int .i64 0, .int .i64 0, .bool false]) rfl (by kernel_rfl) rfl HS22 ?_)
  intro b23 W24 HS25
  refine seqK rfl (does_store (n := 3) (vs := [.int .i64 vt17.Lo, .int .i64 vt17.Hi, .bool vt17.Unknown]) (cs' := #[.int .i64 vt17.Lo, .int .i64 vt17.Hi, .bool vt17.Unknown]) rfl (by kernel_rfl) (by kernel_rfl : _ = Value.pointer (some ⟨b23, 0, none⟩)) (by kernel_rfl : _ = Value.agg #[.int .i64 vt17.Lo, .int .i64 vt17.Hi, .bool vt17.Unknown]) rfl rfl (by intro u_ hu_; simp only [List.mem_cons, List.not_mem_nil, or_false] at hu_; rcases hu_ with rfl | rfl | rfl <;> rfl) HS25 (Nat.le_of_ble_eq_true rfl) (by kernel_rfl) ?_)
  intro W27 HS28
  refine wpList_nil ?_
  refine hK4 _ _ ?_
  refine wp_seq_k (fun K29 hK30 => ?_)
  refine wp_region_lit ?_
  refine seqK rfl (does_run (run_loadN (n := 3) rfl Try.underlying44 rfl (by kernel_rfl) (by kernel_rfl : _ = Value.pointer (some ⟨b23, 0, none⟩)) (cs := [.int .i64 vt17.Lo, .int .i64 vt17.Hi, .bool vt17.Unknown]) rfl (HS28.cells 0 3 _ rfl)) ?_)
  refine seqL1 (by kernel_rfl) ?_
  refine seqK rfl (does_run (run_eqS (b := ((vt17.Lo == 0) && ((vt17.Hi == 10) && ((vt17.Unknown == false) && true)))) rfl (by kernel_rfl : _ = Value.agg #[.int .i64 vt17.Lo, .int .i64 vt17.Hi, .bool vt17.Unknown]) (by kernel_rfl : _ = Value.agg #[.int .i64 0, .int .i64 10, .bool false]) (by kernel_rfl) (by kernel_rfl) W27) ?_)
  refine seqS1 (a' := ⟨#[.bool ((vt17.Lo == 0) && ((vt17.Hi == 10) && ((vt17.Unknown == false) && true))), .pointer (some ⟨b23, 0, none⟩), .agg #[.int .i64 vt5.Lo, .int .i64 vt5.Hi, .bool vt5.Unknown], .agg #[.int .i64 0, .int .i64 0, .bool false], .agg #[.int .i64 vt11.Lo, .int .i64 vt11.Hi, .bool vt11.Unknown], .agg #[.int .i64 vt17.Lo, .int .i64 vt17.Hi, .bool vt17.Unknown], .agg #[.int .i64 vt17.Lo, .int .i64 vt17.Hi, .bool vt17.Unknown], .agg #[.int .i64 0, .int .i64 10, .bool false], .bool ((vt17.Lo == 0) && ((vt17.Hi == 10) && ((vt17.Unknown == false) && true)))], []⟩) (by kernel_rfl) ?_
  refine wpList_nil ?_
  refine hK30 _ _ ?_
  refine wp_ret ?_
  refine hret _ _ ?_
  refine ends_still (v := Value.bool ((vt17.Lo == 0) && ((vt17.Hi == 10) && ((vt17.Unknown == false) && true)))) (by kernel_rfl) (by kernel_rfl) ?_
  have HS31 := HS28.drop
  injection h with h
  subst h
  exact ⟨f19, rfl, (L8.trans (L14.trans L20)), HS31⟩

set_option maxRecDepth 100000 in
set_option maxHeartbeats 4000000 in
theorem bound_vague_Quanta.calls (k : Nat)  (a1 : S_Bound) (b2 : S_Bound) {t w : World} {f : FM} {H : List Seg} (HS : St t w f (H)) (r1 : Bool) (h : bound_vague_Quanta k a1 b2 = some r1) :
    Calls Try.prog 42 #[.agg #[.int .i64 a1.Lo, .int .i64 a1.Hi, .bool a1.Unknown], .agg #[.int .i64 b2.Lo, .int .i64 b2.Hi, .bool b2.Unknown]] w (fun e w' => ∃ (g : FM), e = .returned (Value.bool r1) ∧ FM.le f g ∧ St t w' g (H)) := by
  unfold bound_vague_Quanta at h
  refine enter Try.func42 rfl (tm := #[.agg #[.int .i64 a1.Lo, .int .i64 a1.Hi, .bool a1.Unknown], .agg #[.int .i64 b2.Lo, .int .i64 b2.Hi, .bool b2.Unknown], undef, undef, undef, undef, undef, undef, undef, undef, undef, undef, undef]) (by kernel_rfl) ?_
  intro B hret hnor hnp
  refine wp_seq_k (fun K3 hK4 => ?_)
  refine wp_region_lit ?_
  refine seqK rfl (does_box (cs := #[.int .i64 a1.Lo, .int .i64 a1.Hi, .bool a1.Unknown]) rfl (by kernel_rfl : _ = Value.agg #[.int .i64 a1.Lo, .int .i64 a1.Hi, .bool a1.Unknown]) rfl HS ?_)
  intro b5 W6 HS7
  refine seqK rfl (does_box (cs := #[.int .i64 b2.Lo, .int .i64 b2.Hi, .bool b2.Unknown]) rfl (by kernel_rfl : _ = Value.agg #[.int .i64 b2.Lo, .int .i64 b2.Hi, .bool b2.Unknown]) rfl HS7 ?_)
  intro b9 W10 HS11
  refine seqS1 (a' := ⟨#[.agg #[.int .i64 a1.Lo, .int .i64 a1.Hi, .bool a1.Unknown], .agg #[.int .i64 b2.Lo, .int .i64 b2.Hi, .bool b2.Unknown], .pointer (some ⟨b5, 0, none⟩), .pointer (some ⟨b9, 0, none⟩), .bool false, undef, undef, undef, undef, undef, undef, undef, undef], []⟩) (by kernel_rfl) ?_
  refine wpList_nil ?_
  refine hK4 _ _ ?_
  refine wp_seq_k (fun K13 hK14 => ?_)
  refine wp_region_lit ?_
  refine seqK rfl (does_run (run_loadN (n := 3) rfl Try.underlying44 rfl (by kernel_rfl) (by kernel_rfl : _ = Value.pointer (some ⟨b5, 0, none⟩)) (cs := [.int .i64 a1.Lo, .int .i64 a1.Hi, .bool a1.Unknown]) rfl (HS11.u1.cells 0 3 _ rfl)) ?_)
  have hq_ := bind_some h; clear h; obtain ⟨vt15, hc16, h⟩ := hq_
  refine seqK rfl (does_call (f := 45) (args := #[.agg #[.int .i64 a1.Lo, .int .i64 a1.Hi, .bool a1.Unknown]]) (by kernel_rfl) (bound_Norm_Quanta.calls k a1 HS11 vt15 hc16) ?_)
  rintro _ W19 ⟨f17, rfl, L18, HS20⟩
  refine ⟨_, rfl, ?_⟩
  refine seqS2 (a' := ⟨#[.agg #[.int .i64 a1.Lo, .int .i64 a1.Hi, .bool a1.Unknown], .agg #[.int .i64 b2.Lo, .int .i64 b2.Hi, .bool b2.Unknown], .pointer (some ⟨b5, 0, none⟩), .pointer (some ⟨b9, 0, none⟩), .bool false, .agg #[.int .i64 a1.Lo, .int .i64 a1.Hi, .bool a1.Unknown], .agg #[.int .i64 vt15.Lo, .int .i64 vt15.Hi, .bool vt15.Unknown], .bool vt15.Unknown, .bool vt15.Unknown, undef, undef, undef, undef], []⟩) (by kernel_rfl) ?_
  have hq_ := ite_some h; clear h; rcases hq_ with ⟨c21, h⟩ | ⟨c21, h⟩
  · have c21 : vt15.Unknown = true := c21
    refine seqRwI 7 (x := vt15.Unknown) (v := true) (by kernel_rfl) c21 ?_
    refine seqRwI 8 (x := vt15.Unknown) (v := true) (by kernel_rfl) c21 ?_
    refine seqS5 (a' := ⟨#[.agg #[.int .i64 a1.Lo, .int .i64 a1.Hi, .bool a1.Unknown], .agg #[.int .i64 b2.Lo, .int .i64 b2.Hi, .bool b2.Unknown], .pointer (some ⟨b5, 0, none⟩), .pointer (some ⟨b9, 0, none⟩), .bool true, .agg #[.int .i64 a1.Lo, .int .i64 a1.Hi, .bool a1.Unknown], .agg #[.int .i64 vt15.Lo, .int .i64 vt15.Hi, .bool vt15.Unknown], .bool true, .bool true, undef, undef, undef, .bool true], []⟩) (by kernel_rfl) ?_
    refine wpList_nil ?_
    refine hK14 _ _ ?_
    refine wp_ret ?_
    refine hret _ _ ?_
    refine ends_still (v := Value.bool true) (by kernel_rfl) (by kernel_rfl) ?_
    have HS28 := HS20.drop
    have HS29 := HS28.drop
    injection h with h
    subst h
    exact ⟨f17, rfl, L18, HS29⟩
  · have c21 : ¬ (vt15.Unknown = true) := c21
    refine seqRwI 7 (x := vt15.Unknown) (v := false) (by kernel_rfl) (Bool.eq_false_iff.mpr c21) ?_
    refine seqRwI 8 (x := vt15.Unknown) (v := false) (by kernel_rfl) (Bool.eq_false_iff.mpr c21) ?_
    refine seqG (by kernel_rfl) (does_run (run_loadN (n := 3) rfl Try.underlying44 rfl (by kernel_rfl) (by kernel_rfl : _ = Value.pointer (some ⟨b9, 0, none⟩)) (cs := [.int .i64 b2.Lo, .int .i64 b2.Hi, .bool b2.Unknown]) rfl (HS20.cells 0 3 _ rfl)) ?_)
    have hq_ := bind_some h; clear h; obtain ⟨vt22, hc23, h⟩ := hq_
    refine seqG (by kernel_rfl) (does_call (f := 45) (args := #[.agg #[.int .i64 b2.Lo, .int .i64 b2.Hi, .bool b2.Unknown]]) (by kernel_rfl) (bound_Norm_Quanta.calls k b2 HS20 vt22 hc23) ?_)
    rintro _ W26 ⟨f24, rfl, L25, HS27⟩
    refine ⟨_, rfl, ?_⟩
    refine seqS3 (a' := ⟨#[.agg #[.int .i64 a1.Lo, .int .i64 a1.Hi, .bool a1.Unknown], .agg #[.int .i64 b2.Lo, .int .i64 b2.Hi, .bool b2.Unknown], .pointer (some ⟨b5, 0, none⟩), .pointer (some ⟨b9, 0, none⟩), .bool vt22.Unknown, .agg #[.int .i64 a1.Lo, .int .i64 a1.Hi, .bool a1.Unknown], .agg #[.int .i64 vt15.Lo, .int .i64 vt15.Hi, .bool vt15.Unknown], .bool false, .bool false, .agg #[.int .i64 b2.Lo, .int .i64 b2.Hi, .bool b2.Unknown], .agg #[.int .i64 vt22.Lo, .int .i64 vt22.Hi, .bool vt22.Unknown], .bool vt22.Unknown, .bool vt22.Unknown], []⟩) (by kernel_rfl) ?_
    refine wpList_nil ?_
    refine hK14 _ _ ?_
    refine wp_ret ?_
    refine hret _ _ ?_
    refine ends_still (v := Value.bool vt22.Unknown) (by kernel_rfl) (by kernel_rfl) ?_
    have HS30 := HS27.drop
    have HS31 := HS30.drop
    injection h with h
    subst h
    exact ⟨f24, rfl, (L18.trans L25), HS31⟩

set_option maxRecDepth 100000 in
set_option maxHeartbeats 4000000 in
theorem bound_Inside_Quanta.calls (k : Nat)  (a1 : S_Bound) (b2 : S_Bound) {t w : World} {f : FM} {H : List Seg} (HS : St t w f (H)) (r1 : Bool) (h : bound_Inside_Quanta k a1 b2 = some r1) :
    Calls Try.prog 18 #[.agg #[.int .i64 a1.Lo, .int .i64 a1.Hi, .bool a1.Unknown], .agg #[.int .i64 b2.Lo, .int .i64 b2.Hi, .bool b2.Unknown]] w (fun e w' => ∃ (g : FM), e = .returned (Value.bool r1) ∧ FM.le f g ∧ St t w' g (H)) := by
  unfold bound_Inside_Quanta at h
  refine enter Try.func18 rfl (tm := #[.agg #[.int .i64 a1.Lo, .int .i64 a1.Hi, .bool a1.Unknown], .agg #[.int .i64 b2.Lo, .int .i64 b2.Hi, .bool b2.Unknown], undef, undef, undef, undef, undef, undef, undef, undef, undef, undef, undef, undef, undef, undef, undef, undef, undef, undef, undef, undef, undef, undef, undef, undef, undef, undef]) (by kernel_rfl) ?_
  intro B hret hnor hnp
  refine wp_seq_k (fun K3 hK4 => ?_)
  refine wp_region_lit ?_
  refine seqK rfl (does_box (cs := #[.int .i64 a1.Lo, .int .i64 a1.Hi, .bool a1.Unknown]) rfl (by kernel_rfl : _ = Value.agg #[.int .i64 a1.Lo, .int .i64 a1.Hi, .bool a1.Unknown]) rfl HS ?_)
  intro b5 W6 HS7
  refine seqK rfl (does_box (cs := #[.int .i64 b2.Lo, .int .i64 b2.Hi, .bool b2.Unknown]) rfl (by kernel_rfl : _ = Value.agg #[.int .i64 b2.Lo, .int .i64 b2.Hi, .bool b2.Unknown]) rfl HS7 ?_)
  intro b9 W10 HS11
  refine seqS1 (a' := ⟨#[.agg #[.int .i64 a1.Lo, .int .i64 a1.Hi, .bool a1.Unknown], .agg #[.int .i64 b2.Lo, .int .i64 b2.Hi, .bool b2.Unknown], .pointer (some ⟨b5, 0, none⟩), .pointer (some ⟨b9, 0, none⟩), .bool false, undef, undef, undef, undef, undef, undef, undef, undef, undef, undef, undef, undef, undef, undef, undef, undef, undef, undef, undef, undef, undef, undef, undef], []⟩) (by kernel_rfl) ?_
  refine wpList_nil ?_
  refine hK4 _ _ ?_
  refine wp_seq_k (fun K13 hK14 => ?_)
  refine wp_region_lit ?_
  refine seqK rfl (does_run (run_loadN (n := 3) rfl Try.underlying44 rfl (by kernel_rfl) (by kernel_rfl : _ = Value.pointer (some ⟨b9, 0, none⟩)) (cs := [.int .i64 b2.Lo, .int .i64 b2.Hi, .bool b2.Unknown]) rfl (HS11.cells 0 3 _ rfl)) ?_)
  refine seqK rfl (does_run (run_loadN (n := 3) rfl Try.underlying44 rfl (by kernel_rfl) (by kernel_rfl : _ = Value.pointer (some ⟨b9, 0, none⟩)) (cs := [.int .i64 b2.Lo, .int .i64 b2.Hi, .bool b2.Unknown]) rfl (HS11.cells 0 3 _ rfl)) ?_)
  have hq_ := bind_some h; clear h; obtain ⟨vt15, hc16, h⟩ := hq_
  refine seqK rfl (does_call (f := 42) (args := #[.agg #[.int .i64 b2.Lo, .int .i64 b2.Hi, .bool b2.Unknown], .agg #[.int .i64 b2.Lo, .int .i64 b2.Hi, .bool b2.Unknown]]) (by kernel_rfl) (bound_vague_Quanta.calls k b2 b2 HS11 vt15 hc16) ?_)
  rintro _ W19 ⟨f17, rfl, L18, HS20⟩
  refine ⟨_, rfl, ?_⟩
  refine seqS1 (a' := ⟨#[.agg #[.int .i64 a1.Lo, .int .i64 a1.Hi, .bool a1.Unknown], .agg #[.int .i64 b2.Lo, .int .i64 b2.Hi, .bool b2.Unknown], .pointer (some ⟨b5, 0, none⟩), .pointer (some ⟨b9, 0, none⟩), .bool false, .agg #[.int .i64 b2.Lo, .int .i64 b2.Hi, .bool b2.Unknown], .agg #[.int .i64 b2.Lo, .int .i64 b2.Hi, .bool b2.Unknown], .bool vt15, .bool vt15, undef, undef, undef, undef, undef, undef, undef, undef, undef, undef, undef, undef, undef, undef, undef, undef, undef, undef, undef], []⟩) (by kernel_rfl) ?_
  have hq_ := ite_some h; clear h; rcases hq_ with ⟨c21, h⟩ | ⟨c21, h⟩
  · have c21 : vt15 = true := c21
    refine seqRwI 7 (x := vt15) (v := true) (by kernel_rfl) c21 ?_
    refine seqRwI 8 (x := vt15) (v := true) (by kernel_rfl) c21 ?_
    refine seqS20 (a' := ⟨#[.agg #[.int .i64 a1.Lo, .int .i64 a1.Hi, .bool a1.Unknown], .agg #[.int .i64 b2.Lo, .int .i64 b2.Hi, .bool b2.Unknown], .pointer (some ⟨b5, 0, none⟩), .pointer (some ⟨b9, 0, none⟩), .bool true, .agg #[.int .i64 b2.Lo, .int .i64 b2.Hi, .bool b2.Unknown], .agg #[.int .i64 b2.Lo, .int .i64 b2.Hi, .bool b2.Unknown], .bool true, .bool true, undef, undef, undef, undef, undef, undef, undef, undef, undef, undef, undef, undef, undef, undef, undef, undef, undef, undef, .bool true], []⟩) (by kernel_rfl) ?_
    refine wpList_nil ?_
    refine hK14 _ _ ?_
    refine wp_ret ?_
    refine hret _ _ ?_
    refine ends_still (v := Value.bool true) (by kernel_rfl) (by kernel_rfl) ?_
    have HS30 := HS20.drop
    have HS31 := HS30.drop
    injection h with h
    subst h
    exact ⟨f17, rfl, L18, HS31⟩
  · have c21 : ¬ (vt15 = true) := c21
    refine seqRwI 7 (x := vt15) (v := false) (by kernel_rfl) (Bool.eq_false_iff.mpr c21) ?_
    refine seqRwI 8 (x := vt15) (v := false) (by kernel_rfl) (Bool.eq_false_iff.mpr c21) ?_
    refine seqG (by kernel_rfl) (does_run (run_loadN (n := 3) rfl Try.underlying44 rfl (by kernel_rfl) (by kernel_rfl : _ = Value.pointer (some ⟨b5, 0, none⟩)) (cs := [.int .i64 a1.Lo, .int .i64 a1.Hi, .bool a1.Unknown]) rfl (HS20.u1.cells 0 3 _ rfl)) ?_)
    refine seqG (by kernel_rfl) (does_run (run_loadN (n := 3) rfl Try.underlying44 rfl (by kernel_rfl) (by kernel_rfl : _ = Value.pointer (some ⟨b5, 0, none⟩)) (cs := [.int .i64 a1.Lo, .int .i64 a1.Hi, .bool a1.Unknown]) rfl (HS20.u1.cells 0 3 _ rfl)) ?_)
    have hq_ := bind_some h; clear h; obtain ⟨vt22, hc23, h⟩ := hq_
    refine seqG (by kernel_rfl) (does_call (f := 42) (args := #[.agg #[.int .i64 a1.Lo, .int .i64 a1.Hi, .bool a1.Unknown], .agg #[.int .i64 a1.Lo, .int .i64 a1.Hi, .bool a1.Unknown]]) (by kernel_rfl) (bound_vague_Quanta.calls k a1 a1 HS20 vt22 hc23) ?_)
    rintro _ W26 ⟨f24, rfl, L25, HS27⟩
    refine ⟨_, rfl, ?_⟩
    refine seqS2 (a' := ⟨#[.agg #[.int .i64 a1.Lo, .int .i64 a1.Hi, .bool a1.Unknown], .agg #[.int .i64 b2.Lo, .int .i64 b2.Hi, .bool b2.Unknown], .pointer (some ⟨b5, 0, none⟩), .pointer (some ⟨b9, 0, none⟩), .bool false, .agg #[.int .i64 b2.Lo, .int .i64 b2.Hi, .bool b2.Unknown], .agg #[.int .i64 b2.Lo, .int .i64 b2.Hi, .bool b2.Unknown], .bool false, .bool false, .agg #[.int .i64 a1.Lo, .int .i64 a1.Hi, .bool a1.Unknown], .agg #[.int .i64 a1.Lo, .int .i64 a1.Hi, .bool a1.Unknown], .bool vt22, .bool (!vt22), .bool (!vt22), undef, undef, undef, undef, undef, undef, undef, undef, undef, undef, undef, undef, undef, undef], []⟩) (by kernel_rfl) ?_
    have hq_ := ite_some h; clear h; rcases hq_ with ⟨c28, h⟩ | ⟨c28, h⟩
    · have c28 : ¬ (vt22 = true) := c28
      refine seqRwI 12 (x := (!vt22)) (v := true) (by kernel_rfl) (congrArg (fun b_ => !b_) (show vt22 = false from (Bool.eq_false_iff.mpr c28)) : (!vt22) = true) ?_
      refine seqRwI 13 (x := (!vt22)) (v := true) (by kernel_rfl) (congrArg (fun b_ => !b_) (show vt22 = false from (Bool.eq_false_iff.mpr c28)) : (!vt22) = true) ?_
      refine seqL1 (by kernel_rfl) ?_
      refine seqG (by kernel_rfl) (does_run (run_load rfl Try.underlying42 rfl (by kernel_rfl : _ = Value.pointer (some ⟨b9, 0, none⟩)) (HS27.cell 0)) ?_)
      refine seqL1 (by kernel_rfl) ?_
      refine seqG (by kernel_rfl) (does_run (run_load rfl Try.underlying42 rfl (by kernel_rfl : _ = Value.pointer (some ⟨b5, 0, none⟩)) (HS27.u1.cell 0)) ?_)
      refine seqS3 (a' := ⟨#[.agg #[.int .i64 a1.Lo, .int .i64 a1.Hi, .bool a1.Unknown], .agg #[.int .i64 b2.Lo, .int .i64 b2.Hi, .bool b2.Unknown], .pointer (some ⟨b5, 0, none⟩), .pointer (some ⟨b9, 0, none⟩), .bool false, .agg #[.int .i64 b2.Lo, .int .i64 b2.Hi, .bool b2.Unknown], .agg #[.int .i64 b2.Lo, .int .i64 b2.Hi, .bool b2.Unknown], .bool false, .bool false, .agg #[.int .i64 a1.Lo, .int .i64 a1.Hi, .bool a1.Unknown], .agg #[.int .i64 a1.Lo, .int .i64 a1.Hi, .bool a1.Unknown], .bool vt22, .bool true, .bool true, .pointer (some ⟨b9, 0, none⟩), .int .i64 b2.Lo, .pointer (some ⟨b5, 0, none⟩), .int .i64 a1.Lo, .bool (decide (b2.Lo ≤ a1.Lo)), .bool (decide (b2.Lo ≤ a1.Lo)), .bool (decide (b2.Lo ≤ a1.Lo)), undef, undef, undef, undef, undef, undef, undef], []⟩) (by kernel_rfl) ?_
      have hq_ := ite_some h; clear h; rcases hq_ with ⟨c29, h⟩ | ⟨c29, h⟩
      · have c29 : b2.Lo ≤ a1.Lo := c29
        refine seqRwI 18 (x := (decide (b2.Lo ≤ a1.Lo))) (v := true) (by kernel_rfl) (decide_eq_true c29) ?_
        refine seqRwI 19 (x := (decide (b2.Lo ≤ a1.Lo))) (v := true) (by kernel_rfl) (decide_eq_true c29) ?_
        refine seqRwI 20 (x := (decide (b2.Lo ≤ a1.Lo))) (v := true) (by kernel_rfl) (decide_eq_true c29) ?_
        refine seqL1 (by kernel_rfl) ?_
        refine seqG (by kernel_rfl) (does_run (run_load rfl Try.underlying42 rfl (by kernel_rfl : _ = Value.pointer (some ⟨b5, 1, none⟩)) (HS27.u1.cell 1)) ?_)
        refine seqL1 (by kernel_rfl) ?_
        refine seqG (by kernel_rfl) (does_run (run_load rfl Try.underlying42 rfl (by kernel_rfl : _ = Value.pointer (some ⟨b9, 1, none⟩)) (HS27.cell 1)) ?_)
        refine seqS4 (a' := ⟨#[.agg #[.int .i64 a1.Lo, .int .i64 a1.Hi, .bool a1.Unknown], .agg #[.int .i64 b2.Lo, .int .i64 b2.Hi, .bool b2.Unknown], .pointer (some ⟨b5, 0, none⟩), .pointer (some ⟨b9, 0, none⟩), .bool (decide (a1.Hi ≤ b2.Hi)), .agg #[.int .i64 b2.Lo, .int .i64 b2.Hi, .bool b2.Unknown], .agg #[.int .i64 b2.Lo, .int .i64 b2.Hi, .bool b2.Unknown], .bool false, .bool false, .agg #[.int .i64 a1.Lo, .int .i64 a1.Hi, .bool a1.Unknown], .agg #[.int .i64 a1.Lo, .int .i64 a1.Hi, .bool a1.Unknown], .bool vt22, .bool true, .bool true, .pointer (some ⟨b9, 0, none⟩), .int .i64 b2.Lo, .pointer (some ⟨b5, 0, none⟩), .int .i64 a1.Lo, .bool true, .bool true, .bool true, .pointer (some ⟨b5, 1, none⟩), .int .i64 a1.Hi, .pointer (some ⟨b9, 1, none⟩), .int .i64 b2.Hi, .bool (decide (a1.Hi ≤ b2.Hi)), .bool (decide (a1.Hi ≤ b2.Hi)), .bool (decide (a1.Hi ≤ b2.Hi))], []⟩) (by kernel_rfl) ?_
        refine wpList_nil ?_
        refine hK14 _ _ ?_
        refine wp_ret ?_
        refine hret _ _ ?_
        refine ends_still (v := Value.bool (decide (a1.Hi ≤ b2.Hi))) (by kernel_rfl) (by kernel_rfl) ?_
        have HS32 := HS27.drop
        have HS33 := HS32.drop
        injection h with h
        subst h
        exact ⟨f24, rfl, (L18.trans L25), HS33⟩
      · have c29 : ¬ (b2.Lo ≤ a1.Lo) := c29
        refine seqRwI 18 (x := (decide (b2.Lo ≤ a1.Lo))) (v := false) (by kernel_rfl) (decide_eq_false c29) ?_
        refine seqRwI 19 (x := (decide (b2.Lo ≤ a1.Lo))) (v := false) (by kernel_rfl) (decide_eq_false c29) ?_
        refine seqRwI 20 (x := (decide (b2.Lo ≤ a1.Lo))) (v := false) (by kernel_rfl) (decide_eq_false c29) ?_
        refine seqS8 (a' := ⟨#[.agg #[.int .i64 a1.Lo, .int .i64 a1.Hi, .bool a1.Unknown], .agg #[.int .i64 b2.Lo, .int .i64 b2.Hi, .bool b2.Unknown], .pointer (some ⟨b5, 0, none⟩), .pointer (some ⟨b9, 0, none⟩), .bool false, .agg #[.int .i64 b2.Lo, .int .i64 b2.Hi, .bool b2.Unknown], .agg #[.int .i64 b2.Lo, .int .i64 b2.Hi, .bool b2.Unknown], .bool false, .bool false, .agg #[.int .i64 a1.Lo, .int .i64 a1.Hi, .bool a1.Unknown], .agg #[.int .i64 a1.Lo, .int .i64 a1.Hi, .bool a1.Unknown], .bool vt22, .bool true, .bool true, .pointer (some ⟨b9, 0, none⟩), .int .i64 b2.Lo, .pointer (some ⟨b5, 0, none⟩), .int .i64 a1.Lo, .bool false, .bool false, .bool false, undef, undef, undef, undef, undef, .bool false, .bool false], []⟩) (by kernel_rfl) ?_
        refine wpList_nil ?_
        refine hK14 _ _ ?_
        refine wp_ret ?_
        refine hret _ _ ?_
        refine ends_still (v := Value.bool false) (by kernel_rfl) (by kernel_rfl) ?_
        have HS34 := HS27.drop
        have HS35 := HS34.drop
        injection h with h
        subst h
        exact ⟨f24, rfl, (L18.trans L25), HS35⟩
    · have c28 : ¬ (¬ (vt22 = true)) := c28
      refine seqRwI 12 (x := (!vt22)) (v := false) (by kernel_rfl) (congrArg (fun b_ => !b_) (show vt22 = true from (Decidable.of_not_not c28)) : (!vt22) = false) ?_
      refine seqRwI 13 (x := (!vt22)) (v := false) (by kernel_rfl) (congrArg (fun b_ => !b_) (show vt22 = true from (Decidable.of_not_not c28)) : (!vt22) = false) ?_
      refine seqS15 (a' := ⟨#[.agg #[.int .i64 a1.Lo, .int .i64 a1.Hi, .bool a1.Unknown], .agg #[.int .i64 b2.Lo, .int .i64 b2.Hi, .bool b2.Unknown], .pointer (some ⟨b5, 0, none⟩), .pointer (some ⟨b9, 0, none⟩), .bool false, .agg #[.int .i64 b2.Lo, .int .i64 b2.Hi, .bool b2.Unknown], .agg #[.int .i64 b2.Lo, .int .i64 b2.Hi, .bool b2.Unknown], .bool false, .bool false, .agg #[.int .i64 a1.Lo, .int .i64 a1.Hi, .bool a1.Unknown], .agg #[.int .i64 a1.Lo, .int .i64 a1.Hi, .bool a1.Unknown], .bool vt22, .bool false, .bool false, undef, undef, undef, undef, undef, .bool false, .bool false, undef, undef, undef, undef, undef, .bool false, .bool false], []⟩) (by kernel_rfl) ?_
      refine wpList_nil ?_
      refine hK14 _ _ ?_
      refine wp_ret ?_
      refine hret _ _ ?_
      refine ends_still (v := Value.bool false) (by kernel_rfl) (by kernel_rfl) ?_
      have HS36 := HS27.drop
      have HS37 := HS36.drop
      injection h with h
      subst h
      exact ⟨f24, rfl, (L18.trans L25), HS37⟩

end Go.Sp.C5
