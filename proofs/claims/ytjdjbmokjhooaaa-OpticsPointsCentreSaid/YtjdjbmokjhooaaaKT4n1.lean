import Derived.Test.YtjdjbmokjhooaaaProg
import Derived.Test.YtjdjbmokjhooaaaSpTwo
import Derived.Test.YtjdjbmokjhooaaaFT4
import Derived.Test.YtjdjbmokjhooaaaKT4n0
namespace Go.Sp.T4
open Go Go.Sp Go.Proofs
set_option linter.unusedVariables false
attribute [local irreducible] wpList AnyL Code.wp Calls Does
set_option maxRecDepth 100000 in
set_option maxHeartbeats 4000000 in
theorem num_Wide_Neg.calls (k : Nat)  (vw1 : S_Wide) {t w : World} {f : FM} {H : List Seg} (HS : St t w f (H)) (r1 : S_Wide) (h : num_Wide_Neg k vw1 = some r1) :
    Calls Try.prog 54 #[.agg #[.int .i64 vw1.Hi, .int .u64 vw1.Lo]] w (fun e w' => ∃ (g : FM), e = .returned (Value.agg #[.int .i64 r1.Hi, .int .u64 r1.Lo]) ∧ FM.le f g ∧ St t w' g (H)) := by
  unfold num_Wide_Neg at h
  refine enter Try.func54 rfl (tm := #[.agg #[.int .i64 vw1.Hi, .int .u64 vw1.Lo], undef, undef, undef, undef, undef, undef, undef, undef, undef, undef, undef, undef, undef, undef, undef, undef, undef, undef, undef, undef, undef, undef, undef, undef, undef, undef]) (by kernel_rfl) ?_
  intro B hret hnor hnp
  refine wp_seq_k (fun K2 hK3 => ?_)
  refine wp_region_lit ?_
  refine seqK rfl (does_box (cs := #[.int .i64 vw1.Hi, .int .u64 vw1.Lo]) rfl (by kernel_rfl : _ = Value.agg #[.int .i64 vw1.Hi, .int .u64 vw1.Lo]) rfl HS ?_)
  intro b4 W5 HS6
  refine seqK rfl (does_alloc (z := Value.agg #[.int .i64 0, .int .u64 0]) (cs := #[.int .i64 0, .int .u64 0]) rfl (by kernel_rfl) rfl HS6 ?_)
  intro b8 W9 HS10
  refine wpList_nil ?_
  refine hK3 _ _ ?_
  refine wp_seq_k (fun K12 hK13 => ?_)
  refine wp_region_lit ?_
  refine seqL1 (by kernel_rfl) ?_
  refine seqK rfl (does_run (run_load rfl Try.underlying74 rfl (by kernel_rfl : _ = Value.pointer (some ⟨b4, 1, none⟩)) (HS10.u1.cell 1)) ?_)
  have hq_ := guard_some h; clear h; obtain ⟨c14, h⟩ := hq_
  have c14 : 0 ≤ (Go.bits .xor .u64 IntKind.u64.max vw1.Lo) := c14
  refine seqL1 (by kernel_rfl) ?_
  refine seqK rfl (does_run (run_add64op (x := Go.bits .xor .u64 IntKind.u64.max vw1.Lo) (y := 1) (c := 0) (by kernel_rfl) Try.func59 (by kernel_rfl) (by kernel_rfl) (by kernel_rfl) (by kernel_rfl) c14 (by decide) (by decide) (by decide) W9) ?_)
  refine seqS5 (a' := ⟨#[.agg #[.int .i64 vw1.Hi, .int .u64 vw1.Lo], .pointer (some ⟨b4, 0, none⟩), .pointer (some ⟨b8, 0, none⟩), .int .u64 (((Go.bits .xor .u64 IntKind.u64.max vw1.Lo) + 1 + 0) % 18446744073709551616), .int .u64 (((Go.bits .xor .u64 IntKind.u64.max vw1.Lo) + 1 + 0) / 18446744073709551616), undef, undef, .tuple #[.int .u64 (((Go.bits .xor .u64 IntKind.u64.max vw1.Lo) + 1 + 0) % 18446744073709551616), .int .u64 (((Go.bits .xor .u64 IntKind.u64.max vw1.Lo) + 1 + 0) / 18446744073709551616)], .pointer (some ⟨b4, 1, none⟩), .int .u64 vw1.Lo, .int .u64 (Go.bits .xor .u64 IntKind.u64.max vw1.Lo), .tuple #[.int .u64 (((Go.bits .xor .u64 IntKind.u64.max vw1.Lo) + 1 + 0) % 18446744073709551616), .int .u64 (((Go.bits .xor .u64 IntKind.u64.max vw1.Lo) + 1 + 0) / 18446744073709551616)], .int .u64 (((Go.bits .xor .u64 IntKind.u64.max vw1.Lo) + 1 + 0) % 18446744073709551616), .int .u64 (((Go.bits .xor .u64 IntKind.u64.max vw1.Lo) + 1 + 0) / 18446744073709551616), undef, undef, undef, undef, undef, undef, undef, undef, undef, undef, undef, undef, undef], []⟩) (by kernel_rfl) ?_
  refine wpList_nil ?_
  refine hK13 _ _ ?_
  refine wp_seq_k (fun K15 hK16 => ?_)
  refine wp_region_lit ?_
  refine seqL1 (by kernel_rfl) ?_
  refine seqK rfl (does_run (run_load rfl Try.underlying2 rfl (by kernel_rfl : _ = Value.pointer (some ⟨b4, 0, none⟩)) (HS10.u1.cell 0)) ?_)
  have hq_ := guard_some h; clear h; obtain ⟨c17, h⟩ := hq_
  have c17 : 0 ≤ (Go.bits .xor .u64 IntKind.u64.max (u64 (vw1.Hi))) := c17
  have hq_ := guard_some h; clear h; obtain ⟨c18, h⟩ := hq_
  have c18 : 0 ≤ (((Go.bits .xor .u64 IntKind.u64.max vw1.Lo) + 1 + 0) / 18446744073709551616) := c18
  have hq_ := guard_some h; clear h; obtain ⟨c19, h⟩ := hq_
  have c19 : (((Go.bits .xor .u64 IntKind.u64.max vw1.Lo) + 1 + 0) / 18446744073709551616) ≤ 1 := c19
  refine seqL3 (by kernel_rfl) ?_
  refine seqK rfl (does_run (run_add64op (x := Go.bits .xor .u64 IntKind.u64.max (u64 (vw1.Hi))) (y := 0) (c := ((Go.bits .xor .u64 IntKind.u64.max vw1.Lo) + 1 + 0) / 18446744073709551616) (by kernel_rfl) Try.func59 (by kernel_rfl) (by kernel_rfl) (by kernel_rfl) (by kernel_rfl) c17 (by decide) c18 c19 W9) ?_)
  refine seqS5 (a' := ⟨#[.agg #[.int .i64 vw1.Hi, .int .u64 vw1.Lo], .pointer (some ⟨b4, 0, none⟩), .pointer (some ⟨b8, 0, none⟩), .int .u64 (((Go.bits .xor .u64 IntKind.u64.max vw1.Lo) + 1 + 0) % 18446744073709551616), .int .u64 (((Go.bits .xor .u64 IntKind.u64.max vw1.Lo) + 1 + 0) / 18446744073709551616), .int .u64 (((Go.bits .xor .u64 IntKind.u64.max (u64 (vw1.Hi))) + 0 + (((Go.bits .xor .u64 IntKind.u64.max vw1.Lo) + 1 + 0) / 18446744073709551616)) % 18446744073709551616), .int .u64 (((Go.bits .xor .u64 IntKind.u64.max (u64 (vw1.Hi))) + 0 + (((Go.bits .xor .u64 IntKind.u64.max vw1.Lo) + 1 + 0) / 18446744073709551616)) / 18446744073709551616), .tuple #[.int .u64 (((Go.bits .xor .u64 IntKind.u64.max vw1.Lo) + 1 + 0) % 18446744073709551616), .int .u64 (((Go.bits .xor .u64 IntKind.u64.max vw1.Lo) + 1 + 0) / 18446744073709551616)], .pointer (some ⟨b4, 1, none⟩), .int .u64 vw1.Lo, .int .u64 (Go.bits .xor .u64 IntKind.u64.max vw1.Lo), .tuple #[.int .u64 (((Go.bits .xor .u64 IntKind.u64.max vw1.Lo) + 1 + 0) % 18446744073709551616), .int .u64 (((Go.bits .xor .u64 IntKind.u64.max vw1.Lo) + 1 + 0) / 18446744073709551616)], .int .u64 (((Go.bits .xor .u64 IntKind.u64.max vw1.Lo) + 1 + 0) % 18446744073709551616), .int .u64 (((Go.bits .xor .u64 IntKind.u64.max vw1.Lo) + 1 + 0) / 18446744073709551616), .tuple #[.int .u64 (((Go.bits .xor .u64 IntKind.u64.max (u64 (vw1.Hi))) + 0 + (((Go.bits .xor .u64 IntKind.u64.max vw1.Lo) + 1 + 0) / 18446744073709551616)) % 18446744073709551616), .int .u64 (((Go.bits .xor .u64 IntKind.u64.max (u64 (vw1.Hi))) + 0 + (((Go.bits .xor .u64 IntKind.u64.max vw1.Lo) + 1 + 0) / 18446744073709551616)) / 18446744073709551616)], .pointer (some ⟨b4, 0, none⟩), .int .i64 vw1.Hi, .int .u64 (u64 (vw1.Hi)), .int .u64 (Go.bits .xor .u64 IntKind.u64.max (u64 (vw1.Hi))), .int .u64 (((Go.bits .xor .u64 IntKind.u64.max vw1.Lo) + 1 + 0) / 18446744073709551616), .tuple #[.int .u64 (((Go.bits .xor .u64 IntKind.u64.max (u64 (vw1.Hi))) + 0 + (((Go.bits .xor .u64 IntKind.u64.max vw1.Lo) + 1 + 0) / 18446744073709551616)) % 18446744073709551616), .int .u64 (((Go.bits .xor .u64 IntKind.u64.max (u64 (vw1.Hi))) + 0 + (((Go.bits .xor .u64 IntKind.u64.max vw1.Lo) + 1 + 0) / 18446744073709551616)) / 18446744073709551616)], .int .u64 (((Go.bits .xor .u64 IntKind.u64.max (u64 (vw1.Hi))) + 0 + (((Go.bits .xor .u64 IntKind.u64.max vw1.Lo) + 1 + 0) / 18446744073709551616)) % 18446744073709551616), .int .u64 (((Go.bits .xor .u64 IntKind.u64.max (u64 (vw1.Hi))) + 0 + (((Go.bits .xor .u64 IntKind.u64.max vw1.Lo) + 1 + 0) / 18446744073709551616)) / 18446744073709551616), undef, undef, undef, undef], []⟩) (by kernel_rfl) ?_
  refine wpList_nil ?_
  refine hK16 _ _ ?_
  refine wp_seq_k (fun K20 hK21 => ?_)
  refine wp_region_lit ?_
  refine seqL4 (by kernel_rfl) ?_
  refine seqK rfl (does_store (n := 2) (vs := [.int .i64 (w64 (((Go.bits .xor .u64 IntKind.u64.max (u64 (vw1.Hi))) + 0 + (((Go.bits .xor .u64 IntKind.u64.max vw1.Lo) + 1 + 0) / 18446744073709551616)) % 18446744073709551616)), .int .u64 (((Go.bits .xor .u64 IntKind.u64.max vw1.Lo) + 1 + 0) % 18446744073709551616)]) (cs' := #[.int .i64 (w64 (((Go.bits .xor .u64 IntKind.u64.max (u64 (vw1.Hi))) + 0 + (((Go.bits .xor .u64 IntKind.u64.max vw1.Lo) + 1 + 0) / 18446744073709551616)) % 18446744073709551616)), .int .u64 (((Go.bits .xor .u64 IntKind.u64.max vw1.Lo) + 1 + 0) % 18446744073709551616)]) rfl (by kernel_rfl) (by kernel_rfl : _ = Value.pointer (some ⟨b8, 0, none⟩)) (by kernel_rfl : _ = Value.agg #[.int .i64 (w64 (((Go.bits .xor .u64 IntKind.u64.max (u64 (vw1.Hi))) + 0 + (((Go.bits .xor .u64 IntKind.u64.max vw1.Lo) + 1 + 0) / 18446744073709551616)) % 18446744073709551616)), .int .u64 (((Go.bits .xor .u64 IntKind.u64.max vw1.Lo) + 1 + 0) % 18446744073709551616)]) rfl rfl (by intro u_ hu_; simp only [List.mem_cons, List.not_mem_nil, or_false] at hu_; rcases hu_ with rfl | rfl <;> rfl) HS10 (Nat.le_of_ble_eq_true rfl) (by kernel_rfl) ?_)
  intro W22 HS23
  refine wpList_nil ?_
  refine hK21 _ _ ?_
  refine wp_ret ?_
  refine hret _ _ ?_
  refine ends (v := Value.agg #[.int .i64 (w64 (((Go.bits .xor .u64 IntKind.u64.max (u64 (vw1.Hi))) + 0 + (((Go.bits .xor .u64 IntKind.u64.max vw1.Lo) + 1 + 0) / 18446744073709551616)) % 18446744073709551616)), .int .u64 (((Go.bits .xor .u64 IntKind.u64.max vw1.Lo) + 1 + 0) % 18446744073709551616)]) (results1 (q1 := .cell 2 93) (by kernel_rfl) (resN (n := 2) (cs := [.int .i64 (w64 (((Go.bits .xor .u64 IntKind.u64.max (u64 (vw1.Hi))) + 0 + (((Go.bits .xor .u64 IntKind.u64.max vw1.Lo) + 1 + 0) / 18446744073709551616)) % 18446744073709551616)), .int .u64 (((Go.bits .xor .u64 IntKind.u64.max vw1.Lo) + 1 + 0) % 18446744073709551616)]) (by kernel_rfl : _ = Value.pointer (some ⟨b8, 0, none⟩)) Try.underlying93 rfl (by kernel_rfl) rfl (HS23.cells 0 2 _ rfl))) (by kernel_rfl) ?_
  have HS24 := HS23.drop
  have HS25 := HS24.drop
  injection h with h
  subst h
  exact ⟨f, rfl, FM.le.refl _, HS25⟩

set_option maxRecDepth 100000 in
set_option maxHeartbeats 4000000 in
theorem num_Product.calls (k : Nat)  (a1 : Int) (b2 : Int) {t w : World} {f : FM} {H : List Seg} (HS : St t w f (H)) (r1 : S_Wide) (h : num_Product k a1 b2 = some r1) :
    Calls Try.prog 48 #[.int .i64 a1, .int .i64 b2] w (fun e w' => ∃ (g : FM), e = .returned (Value.agg #[.int .i64 r1.Hi, .int .u64 r1.Lo]) ∧ FM.le f g ∧ St t w' g (H)) := by
  unfold num_Product at h
  refine enter Try.func48 rfl (tm := #[.int .i64 a1, .int .i64 b2, undef, undef, undef, undef, undef, undef, undef, undef, undef, undef, undef, undef, undef, undef, undef, undef, undef, undef, undef, undef, undef, undef, undef, undef, undef, undef]) (by kernel_rfl) ?_
  intro B hret hnor hnp
  refine wp_seq_k (fun K3 hK4 => ?_)
  refine wp_region_lit ?_
  refine seqK rfl (does_alloc (z := Value.agg #[.int .i64 0, .int .u64 0]) (cs := #[.int .i64 0, .int .u64 0]) rfl (by kernel_rfl) rfl HS ?_)
  intro b5 W6 HS7
  refine wpList_nil ?_
  refine hK4 _ _ ?_
  refine wp_seq_k (fun K9 hK10 => ?_)
  refine wp_region_lit ?_
  have hq_ := bind_some h; clear h; obtain ⟨vt11, hc12, h⟩ := hq_
  refine seqL1 (by kernel_rfl) ?_
  refine seqK rfl (does_call (f := 47) (args := #[.int .i64 a1]) (by kernel_rfl) (num_size.calls k a1 HS7 vt11 hc12) ?_)
  rintro _ W15 ⟨f13, rfl, L14, HS16⟩
  refine ⟨_, rfl, ?_⟩
  have hq_ := bind_some h; clear h; obtain ⟨vt17, hc18, h⟩ := hq_
  refine seqL1 (by kernel_rfl) ?_
  refine seqK rfl (does_call (f := 47) (args := #[.int .i64 b2]) (by kernel_rfl) (num_size.calls k b2 HS16 vt17 hc18) ?_)
  rintro _ W21 ⟨f19, rfl, L20, HS22⟩
  refine ⟨_, rfl, ?_⟩
  have hq_ := bind_some h; clear h; obtain ⟨⟨vt23, vt24⟩, hc25, h⟩ := hq_
  refine seqK rfl (does_call (f := 53) (args := #[.int .u64 vt11, .int .u64 vt17]) (by kernel_rfl) (bits_Mul64.calls k vt11 vt17 HS22 vt23 vt24 hc25) ?_)
  rintro _ W28 ⟨f26, rfl, L27, HS29⟩
  refine ⟨_, rfl, ?_⟩
  refine seqS5 (a' := ⟨#[.int .i64 a1, .int .i64 b2, undef, undef, .pointer (some ⟨b5, 0, none⟩), .int .u64 vt23, .int .u64 vt24, undef, .tuple #[.int .u64 vt23, .int .u64 vt24], .int .i64 a1, .int .u64 vt11, .int .i64 b2, .int .u64 vt17, .tuple #[.int .u64 vt23, .int .u64 vt24], .int .u64 vt23, .int .u64 vt24, undef, undef, undef, undef, undef, undef, undef, undef, undef, undef, undef, undef], []⟩) (by kernel_rfl) ?_
  refine wpList_nil ?_
  refine hK10 _ _ ?_
  refine wp_seq_k (fun K30 hK31 => ?_)
  refine wp_region_lit ?_
  refine seqL4 (by kernel_rfl) ?_
  refine seqK rfl (does_alloc (z := Value.agg #[.int .i64 0, .int .u64 0]) (cs := #[.int .i64 0, .int .u64 0]) rfl (by kernel_rfl) rfl HS29 ?_)
  intro b32 W33 HS34
  refine seqK rfl (does_store (n := 2) (vs := [.int .i64 (w64 (vt23)), .int .u64 vt24]) (cs' := #[.int .i64 (w64 (vt23)), .int .u64 vt24]) rfl (by kernel_rfl) (by kernel_rfl : _ = Value.pointer (some ⟨b32, 0, none⟩)) (by kernel_rfl : _ = Value.agg #[.int .i64 (w64 (vt23)), .int .u64 vt24]) rfl rfl (by intro u_ hu_; simp only [List.mem_cons, List.not_mem_nil, or_false] at hu_; rcases hu_ with rfl | rfl <;> rfl) HS34 (Nat.le_of_ble_eq_true rfl) (by kernel_rfl) ?_)
  intro W36 HS37
  refine wpList_nil ?_
  refine hK31 _ _ ?_
  refine wp_seq_k (fun K38 hK39 => ?_)
  refine wp_seq_k (fun K40 hK41 => ?_)
  refine wp_region_lit ?_
  refine seqS5 (a' := ⟨#[.int .i64 a1, .int .i64 b2, undef, undef, .pointer (some ⟨b5, 0, none⟩), .int .u64 vt23, .int .u64 vt24, .pointer (some ⟨b32, 0, none⟩), .tuple #[.int .u64 vt23, .int .u64 vt24], .int .i64 a1, .int .u64 vt11, .int .i64 b2, .int .u64 vt17, .tuple #[.int .u64 vt23, .int .u64 vt24], .int .u64 vt23, .int .u64 vt24, .int .u64 vt23, .int .i64 (w64 (vt23)), .int .u64 vt24, .agg #[.int .i64 (w64 (vt23)), .int .u64 vt24], .int .i64 a1, .bool (decide (a1 < 0)), .int .i64 b2, .bool (decide (b2 < 0)), .bool ((decide (a1 < 0)) != (decide (b2 < 0))), undef, undef, undef], []⟩) (by kernel_rfl) ?_
  refine wpList_nil ?_
  refine hK41 _ _ ?_
  have hq_ := ite_some h; clear h; rcases hq_ with ⟨c43, h⟩ | ⟨c43, h⟩
  · have c43 : ((decide (a1 < 0)) != (decide (b2 < 0))) = true := c43
    refine wpRwI 24 (x := ((decide (a1 < 0)) != (decide (b2 < 0)))) (v := true) (by kernel_rfl) c43 ?_
    refine condT (by kernel_rfl) ?_
    refine wp_seq_k (fun K44 hK45 => ?_)
    refine wp_region_lit ?_
    refine seqK rfl (does_run (run_loadN (n := 2) rfl Try.underlying93 rfl (by kernel_rfl) (by kernel_rfl : _ = Value.pointer (some ⟨b32, 0, none⟩)) (cs := [.int .i64 (w64 (vt23)), .int .u64 vt24]) rfl (HS37.cells 0 2 _ rfl)) ?_)
    have hq_ := bind_some h; clear h; obtain ⟨vt46, hc47, h⟩ := hq_
    refine seqK rfl (does_call (f := 54) (args := #[.agg #[.int .i64 (w64 (vt23)), .int .u64 vt24]]) (by kernel_rfl) (num_Wide_Neg.calls k (⟨w64 (vt23), vt24⟩ : S_Wide) HS37 vt46 hc47) ?_)
    rintro _ W50 ⟨f48, rfl, L49, HS51⟩
    refine ⟨_, rfl, ?_⟩
    have HS52 := HS51.u1
    refine seqK rfl (does_store (n := 2) (vs := [.int .i64 vt46.Hi, .int .u64 vt46.Lo]) (cs' := #[.int .i64 vt46.Hi, .int .u64 vt46.Lo]) rfl (by kernel_rfl) (by kernel_rfl : _ = Value.pointer (some ⟨b5, 0, none⟩)) (by kernel_rfl : _ = Value.agg #[.int .i64 vt46.Hi, .int .u64 vt46.Lo]) rfl rfl (by intro u_ hu_; simp only [List.mem_cons, List.not_mem_nil, or_false] at hu_; rcases hu_ with rfl | rfl <;> rfl) HS52 (Nat.le_of_ble_eq_true rfl) (by kernel_rfl) ?_)
    intro W53 HS54
    refine wpList_nil ?_
    refine hK45 _ _ ?_
    refine wp_ret ?_
    refine hret _ _ ?_
    refine ends (v := Value.agg #[.int .i64 vt46.Hi, .int .u64 vt46.Lo]) (results1 (q1 := .cell 4 93) (by kernel_rfl) (resN (n := 2) (cs := [.int .i64 vt46.Hi, .int .u64 vt46.Lo]) (by kernel_rfl : _ = Value.pointer (some ⟨b5, 0, none⟩)) Try.underlying93 rfl (by kernel_rfl) rfl (HS54.cells 0 2 _ rfl))) (by kernel_rfl) ?_
    have HS60 := HS54.drop
    have HS61 := HS60.drop
    injection h with h
    subst h
    exact ⟨f48, rfl, (L14.trans (L20.trans (L27.trans L49))), HS61⟩
  · have c43 : ¬ (((decide (a1 < 0)) != (decide (b2 < 0))) = true) := c43
    refine wpRwI 24 (x := ((decide (a1 < 0)) != (decide (b2 < 0)))) (v := false) (by kernel_rfl) (Bool.eq_false_iff.mpr c43) ?_
    refine condF (by kernel_rfl) ?_
    refine wp_skip ?_
    refine hK39 _ _ ?_
    refine wp_seq_k (fun K55 hK56 => ?_)
    refine wp_region_lit ?_
    refine seqK rfl (does_run (run_loadN (n := 2) rfl Try.underlying93 rfl (by kernel_rfl) (by kernel_rfl : _ = Value.pointer (some ⟨b32, 0, none⟩)) (cs := [.int .i64 (w64 (vt23)), .int .u64 vt24]) rfl (HS37.cells 0 2 _ rfl)) ?_)
    have HS57 := HS37.u1
    refine seqK rfl (does_store (n := 2) (vs := [.int .i64 (w64 (vt23)), .int .u64 vt24]) (cs' := #[.int .i64 (w64 (vt23)), .int .u64 vt24]) rfl (by kernel_rfl) (by kernel_rfl : _ = Value.pointer (some ⟨b5, 0, none⟩)) (by kernel_rfl : _ = Value.agg #[.int .i64 (w64 (vt23)), .int .u64 vt24]) rfl rfl (by intro u_ hu_; simp only [List.mem_cons, List.not_mem_nil, or_false] at hu_; rcases hu_ with rfl | rfl <;> rfl) HS57 (Nat.le_of_ble_eq_true rfl) (by kernel_rfl) ?_)
    intro W58 HS59
    refine wpList_nil ?_
    refine hK56 _ _ ?_
    refine wp_ret ?_
    refine hret _ _ ?_
    refine ends (v := Value.agg #[.int .i64 (w64 (vt23)), .int .u64 vt24]) (results1 (q1 := .cell 4 93) (by kernel_rfl) (resN (n := 2) (cs := [.int .i64 (w64 (vt23)), .int .u64 vt24]) (by kernel_rfl : _ = Value.pointer (some ⟨b5, 0, none⟩)) Try.underlying93 rfl (by kernel_rfl) rfl (HS59.cells 0 2 _ rfl))) (by kernel_rfl) ?_
    have HS62 := HS59.drop
    have HS63 := HS62.drop
    injection h with h
    subst h
    exact ⟨f26, rfl, (L14.trans (L20.trans L27)), HS63⟩

set_option maxRecDepth 100000 in
set_option maxHeartbeats 4000000 in
theorem num_Mul.calls (k : Nat)  (a1 : Int) (b2 : Int) {t w : World} {f : FM} {H : List Seg} (HS : St t w f (H)) (r1 : Int) (r2 : Bool) (h : num_Mul k a1 b2 = some (r1, r2)) :
    Calls Try.prog 39 #[.int .i64 a1, .int .i64 b2] w (fun e w' => ∃ (g : FM), e = .returned (Value.tuple #[.int .i64 r1, .bool r2]) ∧ FM.le f g ∧ St t w' g (H)) := by
  unfold num_Mul at h
  refine enter Try.func39 rfl (tm := #[.int .i64 a1, .int .i64 b2, undef, undef, undef, undef, undef, undef, undef, undef, undef, undef, undef, undef, undef, undef, undef, undef, undef, undef]) (by kernel_rfl) ?_
  intro B hret hnor hnp
  refine wp_seq_k (fun K3 hK4 => ?_)
  refine wp_region_lit ?_
  refine seqS2 (a' := ⟨#[.int .i64 a1, .int .i64 b2, undef, undef, .int .i64 0, .bool false, undef, undef, undef, undef, undef, undef, undef, undef, undef, undef, undef, undef, undef, undef], []⟩) (by kernel_rfl) ?_
  refine wpList_nil ?_
  refine hK4 _ _ ?_
  refine wp_seq_k (fun K5 hK6 => ?_)
  refine wp_region_lit ?_
  have hq_ := bind_some h; clear h; obtain ⟨vt7, hc8, h⟩ := hq_
  refine seqL2 (by kernel_rfl) ?_
  refine seqK rfl (does_call (f := 48) (args := #[.int .i64 a1, .int .i64 b2]) (by kernel_rfl) (num_Product.calls k a1 b2 HS vt7 hc8) ?_)
  rintro _ W11 ⟨f9, rfl, L10, HS12⟩
  refine ⟨_, rfl, ?_⟩
  refine seqK rfl (does_alloc (z := Value.agg #[.int .i64 0, .int .u64 0]) (cs := #[.int .i64 0, .int .u64 0]) rfl (by kernel_rfl) rfl HS12 ?_)
  intro b13 W14 HS15
  refine seqK rfl (does_store (n := 2) (vs := [.int .i64 vt7.Hi, .int .u64 vt7.Lo]) (cs' := #[.int .i64 vt7.Hi, .int .u64 vt7.Lo]) rfl (by kernel_rfl) (by kernel_rfl : _ = Value.pointer (some ⟨b13, 0, none⟩)) (by kernel_rfl : _ = Value.agg #[.int .i64 vt7.Hi, .int .u64 vt7.Lo]) rfl rfl (by intro u_ hu_; simp only [List.mem_cons, List.not_mem_nil, or_false] at hu_; rcases hu_ with rfl | rfl <;> rfl) HS15 (Nat.le_of_ble_eq_true rfl) (by kernel_rfl) ?_)
  intro W17 HS18
  refine wpList_nil ?_
  refine hK6 _ _ ?_
  refine wp_seq_k (fun K19 hK20 => ?_)
  refine wp_seq_k (fun K21 hK22 => ?_)
  refine wp_region_lit ?_
  refine seqL1 (by kernel_rfl) ?_
  refine seqK rfl (does_run (run_load rfl Try.underlying2 rfl (by kernel_rfl : _ = Value.pointer (some ⟨b13, 0, none⟩)) (HS18.cell 0)) ?_)
  refine seqL1 (by kernel_rfl) ?_
  refine seqK rfl (does_run (run_load rfl Try.underlying74 rfl (by kernel_rfl : _ = Value.pointer (some ⟨b13, 1, none⟩)) (HS18.cell 1)) ?_)
  refine seqS3 (a' := ⟨#[.int .i64 a1, .int .i64 b2, undef, undef, .int .i64 0, .bool false, .pointer (some ⟨b13, 0, none⟩), .int .i64 a1, .int .i64 b2, .agg #[.int .i64 vt7.Hi, .int .u64 vt7.Lo], .pointer (some ⟨b13, 0, none⟩), .int .i64 vt7.Hi, .pointer (some ⟨b13, 1, none⟩), .int .u64 vt7.Lo, .int .i64 (w64 (vt7.Lo)), .int .i64 (shr (w64 (vt7.Lo)) 63), .bool (vt7.Hi != (shr (w64 (vt7.Lo)) 63)), undef, undef, undef], []⟩) (by kernel_rfl) ?_
  refine wpList_nil ?_
  refine hK22 _ _ ?_
  have hq_ := ite_some h; clear h; rcases hq_ with ⟨c24, h⟩ | ⟨c24, h⟩
  · have c24 : vt7.Hi ≠ (shr (w64 (vt7.Lo)) 63) := c24
    refine wpRwI 16 (x := (vt7.Hi != (shr (w64 (vt7.Lo)) 63))) (v := true) (by kernel_rfl) (bne_iff_ne.mpr c24) ?_
    refine condT (by kernel_rfl) ?_
    refine wp_seq_k (fun K25 hK26 => ?_)
    refine wp_region_lit ?_
    refine seqS2 (a' := ⟨#[.int .i64 a1, .int .i64 b2, undef, undef, .int .i64 0, .bool false, .pointer (some ⟨b13, 0, none⟩), .int .i64 a1, .int .i64 b2, .agg #[.int .i64 vt7.Hi, .int .u64 vt7.Lo], .pointer (some ⟨b13, 0, none⟩), .int .i64 vt7.Hi, .pointer (some ⟨b13, 1, none⟩), .int .u64 vt7.Lo, .int .i64 (w64 (vt7.Lo)), .int .i64 (shr (w64 (vt7.Lo)) 63), .bool true, undef, undef, undef], []⟩) (by kernel_rfl) ?_
    refine wpList_nil ?_
    refine hK26 _ _ ?_
    refine wp_ret ?_
    refine hret _ _ ?_
    refine ends_still (v := Value.tuple #[.int .i64 0, .bool false]) (by kernel_rfl) (by kernel_rfl) ?_
    have HS29 := HS18.drop
    injection h with h
    injection h with h0_ h
    subst h0_ h
    exact ⟨f9, rfl, L10, HS29⟩
  · have c24 : ¬ (vt7.Hi ≠ (shr (w64 (vt7.Lo)) 63)) := c24
    refine wpRwI 16 (x := (vt7.Hi != (shr (w64 (vt7.Lo)) 63))) (v := false) (by kernel_rfl) (bne_eq_false_iff_eq.mpr (Decidable.of_not_not c24)) ?_
    refine condF (by kernel_rfl) ?_
    refine wp_skip ?_
    refine hK20 _ _ ?_
    refine wp_seq_k (fun K27 hK28 => ?_)
    refine wp_region_lit ?_
    refine seqL1 (by kernel_rfl) ?_
    refine seqK rfl (does_run (run_load rfl Try.underlying74 rfl (by kernel_rfl : _ = Value.pointer (some ⟨b13, 1, none⟩)) (HS18.cell 1)) ?_)
    refine seqS3 (a' := ⟨#[.int .i64 a1, .int .i64 b2, undef, undef, .int .i64 (w64 (vt7.Lo)), .bool true, .pointer (some ⟨b13, 0, none⟩), .int .i64 a1, .int .i64 b2, .agg #[.int .i64 vt7.Hi, .int .u64 vt7.Lo], .pointer (some ⟨b13, 0, none⟩), .int .i64 vt7.Hi, .pointer (some ⟨b13, 1, none⟩), .int .u64 vt7.Lo, .int .i64 (w64 (vt7.Lo)), .int .i64 (shr (w64 (vt7.Lo)) 63), .bool false, .pointer (some ⟨b13, 1, none⟩), .int .u64 vt7.Lo, .int .i64 (w64 (vt7.Lo))], []⟩) (by kernel_rfl) ?_
    refine wpList_nil ?_
    refine hK28 _ _ ?_
    refine wp_ret ?_
    refine hret _ _ ?_
    refine ends_still (v := Value.tuple #[.int .i64 (w64 (vt7.Lo)), .bool true]) (by kernel_rfl) (by kernel_rfl) ?_
    have HS30 := HS18.drop
    injection h with h
    injection h with h0_ h
    subst h0_ h
    exact ⟨f9, rfl, L10, HS30⟩

set_option maxRecDepth 100000 in
set_option maxHeartbeats 4000000 in
theorem frac_made.calls (k : Nat) (A4 : Option Addr) (c5 : Nat) (n1 : Int) (d2 : Int) (ok3 : List Bool) {t w : World} {f : FM} {H : List Seg} (HS : St t w f (H)) (HR6 : SlR tBool f A4 c5 ok3) (r1 : S_Frac) (r2 : Int) (h : frac_made k n1 d2 ok3 = some (r1, r2)) :
    Calls Try.prog 40 #[.int .i64 n1, .int .i64 d2, .slice A4 ok3.length c5] w (fun e w' => ∃ (g : FM), e = .returned (Value.tuple #[.agg #[.int .i64 r1.Num, .int .i64 r1.Den], .int .i64 r2]) ∧ FM.le f g ∧ St t w' g (H)) := by
  unfold frac_made at h
  refine enter Try.func40 rfl (tm := #[.int .i64 n1, .int .i64 d2, .slice A4 ok3.length c5, undef, undef, undef, undef, undef, undef, undef, undef, undef, undef, undef, undef, undef, undef, undef, undef, undef, undef, undef, undef, undef, undef, undef, undef, undef, undef, undef, undef, undef, undef, undef]) (by kernel_rfl) ?_
  intro B hret hnor hnp
  refine wp_seq_k (fun K7 hK8 => ?_)
  refine wp_region_lit ?_
  refine seqK rfl (does_alloc (z := Value.agg #[.int .i64 0, .int .i64 0]) (cs := #[.int .i64 0, .int .i64 0]) rfl (by kernel_rfl) rfl HS ?_)
  intro b9 W10 HS11
  refine seqS1 (a' := ⟨#[.int .i64 n1, .int .i64 d2, .slice A4 ok3.length c5, undef, undef, undef, .pointer (some ⟨b9, 0, none⟩), .int .i64 0, undef, undef, undef, undef, undef, undef, undef, undef, undef, undef, undef, undef, undef, undef, undef, undef, undef, undef, undef, undef, undef, undef, undef, undef, undef, undef], []⟩) (by kernel_rfl) ?_
  refine wpList_nil ?_
  refine hK8 _ _ ?_
  refine wp_seq_k (fun K13 hK14 => ?_)
  refine wp_seq_k (fun K15 hK16 => ?_)
  refine wp_region_lit ?_
  refine seqS3 (a' := ⟨#[.int .i64 n1, .int .i64 d2, .slice A4 ok3.length c5, undef, undef, undef, .pointer (some ⟨b9, 0, none⟩), .int .i64 0, undef, undef, .slice A4 ok3.length c5, .int .i64 (ok3.length : Int), .int .i64 0, undef, undef, undef, undef, undef, undef, undef, undef, undef, undef, undef, undef, undef, undef, undef, undef, undef, undef, undef, undef, undef], []⟩) (by kernel_rfl) ?_
  refine wpList_nil ?_
  refine hK16 _ _ ?_
  refine blockK (fun B17 hx18 hn19 hr20 ho21 hp22 => ?_)
  have hq_ := bind_some h; clear h; obtain ⟨o23, hv69, h⟩ := hq_
  have JR71 : ∀ z_, some (Sum.inl z_) = some o23 → some z_ = some (r1, r2) := by
    intro z_ e_; injection e_ with e_; subst e_; exact h
  have J70 : ∀ (f64 : FM) (j68 : Nat → Value) (W66 : World) (a_ : Act), FM.le f f64 → some (Sum.inr ()) = some o23 → St t W66 f64 ([(b9, .cells #[.int .i64 0, .int .i64 0] 41 (0, 0))] :: H) → a_ = ⟨#[.int .i64 n1, .int .i64 d2, .slice A4 ok3.length c5, undef, undef, undef, .pointer (some ⟨b9, 0, none⟩), (j68 0), undef, (j68 1), .slice A4 ok3.length c5, .int .i64 (ok3.length : Int), (j68 2), (j68 3), (j68 4), (j68 5), (j68 6), (j68 7), (j68 8), (j68 9), undef, undef, undef, undef, undef, undef, undef, undef, undef, undef, undef, undef, undef, undef], []⟩ → K13 a_ W66 := by
    intro f64 j68 W66 a_ L65 hj72 HS67  hfr_; subst hfr_
    injection hj72 with hj72; subst hj72; try dsimp only at h
    simp only [Sum.elim_inr] at h
    refine hK14 _ _ ?_
    refine wp_seq_k (fun K73 hK74 => ?_)
    refine wp_seq_k (fun K75 hK76 => ?_)
    refine wp_region_lit ?_
    refine seqS3 (a' := ⟨#[.int .i64 n1, .int .i64 d2, .slice A4 ok3.length c5, undef, undef, undef, .pointer (some ⟨b9, 0, none⟩), (j68 0), undef, (j68 1), .slice A4 ok3.length c5, .int .i64 (ok3.length : Int), (j68 2), (j68 3), (j68 4), (j68 5), (j68 6), (j68 7), (j68 8), (j68 9), .int .i64 n1, .bool (decide (n1 < (-1152921504606846976))), .bool (decide (n1 < (-1152921504606846976))), undef, undef, undef, undef, undef, undef, undef, undef, undef, undef, undef], []⟩) (by kernel_rfl) ?_
    have hq_ := ite_some h; clear h; rcases hq_ with ⟨c77, h⟩ | ⟨c77, h⟩
    · have c77 : n1 < (-1152921504606846976) := c77
      refine seqRwI 21 (x := (decide (n1 < (-1152921504606846976)))) (v := true) (by kernel_rfl) (decide_eq_true c77) ?_
      refine seqRwI 22 (x := (decide (n1 < (-1152921504606846976)))) (v := true) (by kernel_rfl) (decide_eq_true c77) ?_
      refine seqS7 (a' := ⟨#[.int .i64 n1, .int .i64 d2, .slice A4 ok3.length c5, undef, undef, undef, .pointer (some ⟨b9, 0, none⟩), (j68 0), undef, (j68 1), .slice A4 ok3.length c5, .int .i64 (ok3.length : Int), (j68 2), (j68 3), (j68 4), (j68 5), (j68 6), (j68 7), (j68 8), (j68 9), .int .i64 n1, .bool true, .bool true, undef, undef, .bool true, .bool true, undef, undef, .bool true, undef, undef, undef, undef], []⟩) (by kernel_rfl) ?_
      refine wpList_nil ?_
      refine hK76 _ _ ?_
      refine condT (by kernel_rfl) ?_
      refine wp_seq_k (fun K78 hK79 => ?_)
      refine wp_region_lit ?_
      refine seqL1 (by kernel_rfl) ?_
      refine seqK rfl (does_store (n := 2) (vs := [.int .i64 0, .int .i64 0]) (cs' := #[.int .i64 0, .int .i64 0]) rfl (by kernel_rfl) (by kernel_rfl : _ = Value.pointer (some ⟨b9, 0, none⟩)) (by kernel_rfl : _ = Value.agg #[.int .i64 0, .int .i64 0]) rfl rfl (by intro u_ hu_; simp only [List.mem_cons, List.not_mem_nil, or_false] at hu_; rcases hu_ with rfl | rfl <;> rfl) HS67 (Nat.le_of_ble_eq_true rfl) (by kernel_rfl) ?_)
      intro W80 HS81
      refine seqS1 (a' := ⟨#[.int .i64 n1, .int .i64 d2, .slice A4 ok3.length c5, undef, undef, undef, .pointer (some ⟨b9, 0, none⟩), .int .i64 2, undef, (j68 1), .slice A4 ok3.length c5, .int .i64 (ok3.length : Int), (j68 2), (j68 3), (j68 4), (j68 5), (j68 6), (j68 7), (j68 8), (j68 9), .int .i64 n1, .bool true, .bool true, undef, undef, .bool true, .bool true, undef, undef, .bool true, .agg #[.int .i64 0, .int .i64 0], undef, undef, undef], []⟩) (by kernel_rfl) ?_
      refine wpList_nil ?_
      refine hK79 _ _ ?_
      refine wp_ret ?_
      refine hret _ _ ?_
      refine ends (v := Value.tuple #[.agg #[.int .i64 0, .int .i64 0], .int .i64 2]) (results2 (q1 := .cell 6 41) (q2 := .tmp 7) (by kernel_rfl) (resN (n := 2) (cs := [.int .i64 0, .int .i64 0]) (by kernel_rfl : _ = Value.pointer (some ⟨b9, 0, none⟩)) Try.underlying41 rfl (by kernel_rfl) rfl (HS81.cells 0 2 _ rfl)) (resT (by kernel_rfl : _ = Value.int .i64 2))) (by kernel_rfl) ?_
      have HS98 := HS81.drop
      injection h with h
      injection h with h0_ h
      subst h0_ h
      exact ⟨f64, rfl, L65, HS98⟩
    · have c77 : ¬ (n1 < (-1152921504606846976)) := c77
      refine seqRwI 21 (x := (decide (n1 < (-1152921504606846976)))) (v := false) (by kernel_rfl) (decide_eq_false c77) ?_
      refine seqRwI 22 (x := (decide (n1 < (-1152921504606846976)))) (v := false) (by kernel_rfl) (decide_eq_false c77) ?_
      refine seqS4 (a' := ⟨#[.int .i64 n1, .int .i64 d2, .slice A4 ok3.length c5, undef, undef, undef, .pointer (some ⟨b9, 0, none⟩), (j68 0), undef, (j68 1), .slice A4 ok3.length c5, .int .i64 (ok3.length : Int), (j68 2), (j68 3), (j68 4), (j68 5), (j68 6), (j68 7), (j68 8), (j68 9), .int .i64 n1, .bool false, .bool false, .int .i64 n1, .bool (decide (n1 > 1152921504606846976)), .bool (decide (n1 > 1152921504606846976)), .bool (decide (n1 > 1152921504606846976)), undef, undef, undef, undef, undef, undef, undef], []⟩) (by kernel_rfl) ?_
      have hq_ := ite_some h; clear h; rcases hq_ with ⟨c82, h⟩ | ⟨c82, h⟩
      · have c82 : n1 > 1152921504606846976 := c82
        refine seqRwI 24 (x := (decide (n1 > 1152921504606846976))) (v := true) (by kernel_rfl) (decide_eq_true c82) ?_
        refine seqRwI 25 (x := (decide (n1 > 1152921504606846976))) (v := true) (by kernel_rfl) (decide_eq_true c82) ?_
        refine seqRwI 26 (x := (decide (n1 > 1152921504606846976))) (v := true) (by kernel_rfl) (decide_eq_true c82) ?_
        refine seqS3 (a' := ⟨#[.int .i64 n1, .int .i64 d2, .slice A4 ok3.length c5, undef, undef, undef, .pointer (some ⟨b9, 0, none⟩), (j68 0), undef, (j68 1), .slice A4 ok3.length c5, .int .i64 (ok3.length : Int), (j68 2), (j68 3), (j68 4), (j68 5), (j68 6), (j68 7), (j68 8), (j68 9), .int .i64 n1, .bool false, .bool false, .int .i64 n1, .bool true, .bool true, .bool true, undef, undef, .bool true, undef, undef, undef, undef], []⟩) (by kernel_rfl) ?_
        refine wpList_nil ?_
        refine hK76 _ _ ?_
        refine condT (by kernel_rfl) ?_
        refine wp_seq_k (fun K83 hK84 => ?_)
        refine wp_region_lit ?_
        refine seqL1 (by kernel_rfl) ?_
        refine seqK rfl (does_store (n := 2) (vs := [.int .i64 0, .int .i64 0]) (cs' := #[.int .i64 0, .int .i64 0]) rfl (by kernel_rfl) (by kernel_rfl : _ = Value.pointer (some ⟨b9, 0, none⟩)) (by kernel_rfl : _ = Value.agg #[.int .i64 0, .int .i64 0]) rfl rfl (by intro u_ hu_; simp only [List.mem_cons, List.not_mem_nil, or_false] at hu_; rcases hu_ with rfl | rfl <;> rfl) HS67 (Nat.le_of_ble_eq_true rfl) (by kernel_rfl) ?_)
        intro W85 HS86
        refine seqS1 (a' := ⟨#[.int .i64 n1, .int .i64 d2, .slice A4 ok3.length c5, undef, undef, undef, .pointer (some ⟨b9, 0, none⟩), .int .i64 2, undef, (j68 1), .slice A4 ok3.length c5, .int .i64 (ok3.length : Int), (j68 2), (j68 3), (j68 4), (j68 5), (j68 6), (j68 7), (j68 8), (j68 9), .int .i64 n1, .bool false, .bool false, .int .i64 n1, .bool true, .bool true, .bool true, undef, undef, .bool true, .agg #[.int .i64 0, .int .i64 0], undef, undef, undef], []⟩) (by kernel_rfl) ?_
        refine wpList_nil ?_
        refine hK84 _ _ ?_
        refine wp_ret ?_
        refine hret _ _ ?_
        refine ends (v := Value.tuple #[.agg #[.int .i64 0, .int .i64 0], .int .i64 2]) (results2 (q1 := .cell 6 41) (q2 := .tmp 7) (by kernel_rfl) (resN (n := 2) (cs := [.int .i64 0, .int .i64 0]) (by kernel_rfl : _ = Value.pointer (some ⟨b9, 0, none⟩)) Try.underlying41 rfl (by kernel_rfl) rfl (HS86.cells 0 2 _ rfl)) (resT (by kernel_rfl : _ = Value.int .i64 2))) (by kernel_rfl) ?_
        have HS99 := HS86.drop
        injection h with h
        injection h with h0_ h
        subst h0_ h
        exact ⟨f64, rfl, L65, HS99⟩
      · have c82 : ¬ (n1 > 1152921504606846976) := c82
        refine seqRwI 24 (x := (decide (n1 > 1152921504606846976))) (v := false) (by kernel_rfl) (decide_eq_false c82) ?_
        refine seqRwI 25 (x := (decide (n1 > 1152921504606846976))) (v := false) (by kernel_rfl) (decide_eq_false c82) ?_
        refine seqRwI 26 (x := (decide (n1 > 1152921504606846976))) (v := false) (by kernel_rfl) (decide_eq_false c82) ?_
        refine seqS3 (a' := ⟨#[.int .i64 n1, .int .i64 d2, .slice A4 ok3.length c5, undef, undef, undef, .pointer (some ⟨b9, 0, none⟩), (j68 0), undef, (j68 1), .slice A4 ok3.length c5, .int .i64 (ok3.length : Int), (j68 2), (j68 3), (j68 4), (j68 5), (j68 6), (j68 7), (j68 8), (j68 9), .int .i64 n1, .bool false, .bool false, .int .i64 n1, .bool false, .bool false, .bool false, .int .i64 d2, .bool (decide (d2 > 1152921504606846976)), .bool (decide (d2 > 1152921504606846976)), undef, undef, undef, undef], []⟩) (by kernel_rfl) ?_
        refine wpList_nil ?_
        refine hK76 _ _ ?_
        have hq_ := ite_some h; clear h; rcases hq_ with ⟨c88, h⟩ | ⟨c88, h⟩
        · have c88 : d2 > 1152921504606846976 := c88
          refine wpRwI 28 (x := (decide (d2 > 1152921504606846976))) (v := true) (by kernel_rfl) (decide_eq_true c88) ?_
          refine wpRwI 29 (x := (decide (d2 > 1152921504606846976))) (v := true) (by kernel_rfl) (decide_eq_true c88) ?_
          refine condT (by kernel_rfl) ?_
          refine wp_seq_k (fun K89 hK90 => ?_)
          refine wp_region_lit ?_
          refine seqL1 (by kernel_rfl) ?_
          refine seqK rfl (does_store (n := 2) (vs := [.int .i64 0, .int .i64 0]) (cs' := #[.int .i64 0, .int .i64 0]) rfl (by kernel_rfl) (by kernel_rfl : _ = Value.pointer (some ⟨b9, 0, none⟩)) (by kernel_rfl : _ = Value.agg #[.int .i64 0, .int .i64 0]) rfl rfl (by intro u_ hu_; simp only [List.mem_cons, List.not_mem_nil, or_false] at hu_; rcases hu_ with rfl | rfl <;> rfl) HS67 (Nat.le_of_ble_eq_true rfl) (by kernel_rfl) ?_)
          intro W91 HS92
          refine seqS1 (a' := ⟨#[.int .i64 n1, .int .i64 d2, .slice A4 ok3.length c5, undef, undef, undef, .pointer (some ⟨b9, 0, none⟩), .int .i64 2, undef, (j68 1), .slice A4 ok3.length c5, .int .i64 (ok3.length : Int), (j68 2), (j68 3), (j68 4), (j68 5), (j68 6), (j68 7), (j68 8), (j68 9), .int .i64 n1, .bool false, .bool false, .int .i64 n1, .bool false, .bool false, .bool false, .int .i64 d2, .bool true, .bool true, .agg #[.int .i64 0, .int .i64 0], undef, undef, undef], []⟩) (by kernel_rfl) ?_
          refine wpList_nil ?_
          refine hK90 _ _ ?_
          refine wp_ret ?_
          refine hret _ _ ?_
          refine ends (v := Value.tuple #[.agg #[.int .i64 0, .int .i64 0], .int .i64 2]) (results2 (q1 := .cell 6 41) (q2 := .tmp 7) (by kernel_rfl) (resN (n := 2) (cs := [.int .i64 0, .int .i64 0]) (by kernel_rfl : _ = Value.pointer (some ⟨b9, 0, none⟩)) Try.underlying41 rfl (by kernel_rfl) rfl (HS92.cells 0 2 _ rfl)) (resT (by kernel_rfl : _ = Value.int .i64 2))) (by kernel_rfl) ?_
          have HS100 := HS92.drop
          injection h with h
          injection h with h0_ h
          subst h0_ h
          exact ⟨f64, rfl, L65, HS100⟩
        · have c88 : ¬ (d2 > 1152921504606846976) := c88
          refine wpRwI 28 (x := (decide (d2 > 1152921504606846976))) (v := false) (by kernel_rfl) (decide_eq_false c88) ?_
          refine wpRwI 29 (x := (decide (d2 > 1152921504606846976))) (v := false) (by kernel_rfl) (decide_eq_false c88) ?_
          refine condF (by kernel_rfl) ?_
          refine wp_skip ?_
          refine hK74 _ _ ?_
          refine wp_seq_k (fun K93 hK94 => ?_)
          refine wp_region_lit ?_
          refine seqL3 (by kernel_rfl) ?_
          refine seqK rfl (does_store (n := 2) (vs := [.int .i64 n1, .int .i64 d2]) (cs' := #[.int .i64 n1, .int .i64 d2]) rfl (by kernel_rfl) (by kernel_rfl : _ = Value.pointer (some ⟨b9, 0, none⟩)) (by kernel_rfl : _ = Value.agg #[.int .i64 n1, .int .i64 d2]) rfl rfl (by intro u_ hu_; simp only [List.mem_cons, List.not_mem_nil, or_false] at hu_; rcases hu_ with rfl | rfl <;> rfl) HS67 (Nat.le_of_ble_eq_true rfl) (by kernel_rfl) ?_)
          intro W95 HS96
          refine seqS1 (a' := ⟨#[.int .i64 n1, .int .i64 d2, .slice A4 ok3.length c5, undef, undef, undef, .pointer (some ⟨b9, 0, none⟩), .int .i64 0, undef, (j68 1), .slice A4 ok3.length c5, .int .i64 (ok3.length : Int), (j68 2), (j68 3), (j68 4), (j68 5), (j68 6), (j68 7), (j68 8), (j68 9), .int .i64 n1, .bool false, .bool false, .int .i64 n1, .bool false, .bool false, .bool false, .int .i64 d2, .bool false, .bool false, undef, .int .i64 n1, .int .i64 d2, .agg #[.int .i64 n1, .int .i64 d2]], []⟩) (by kernel_rfl) ?_
          refine wpList_nil ?_
          refine hK94 _ _ ?_
          refine wp_ret ?_
          refine hret _ _ ?_
          refine ends (v := Value.tuple #[.agg #[.int .i64 n1, .int .i64 d2], .int .i64 0]) (results2 (q1 := .cell 6 41) (q2 := .tmp 7) (by kernel_rfl) (resN (n := 2) (cs := [.int .i64 n1, .int .i64 d2]) (by kernel_rfl : _ = Value.pointer (some ⟨b9, 0, none⟩)) Try.underlying41 rfl (by kernel_rfl) rfl (HS96.cells 0 2 _ rfl)) (resT (by kernel_rfl : _ = Value.int .i64 0))) (by kernel_rfl) ?_
          have HS101 := HS96.drop
          injection h with h
          injection h with h0_ h
          subst h0_ h
          exact ⟨f64, rfl, L65, HS101⟩
  clear h; have h := hv69; clear hv69
  refine loopK (fun n_ a_ w_ => ∃ (f27 : FM) (x32 : Int) (j31 : Nat → Value), FM.le f f27 ∧ St t w_ f27 ([(b9, .cells #[.int .i64 0, .int .i64 0] 41 (0, 0))] :: H) ∧ frac_made.l0 k ok3 n_ x32 = some o23 ∧ a_ = ⟨#[.int .i64 n1, .int .i64 d2, .slice A4 ok3.length c5, undef, undef, undef, .pointer (some ⟨b9, 0, none⟩), (j31 0), undef, (j31 1), .slice A4 ok3.length c5, .int .i64 (ok3.length : Int), .int .i64 x32, (j31 2), (j31 3), (j31 4), (j31 5), (j31 6), (j31 7), (j31 8), undef, undef, undef, undef, undef, undef, undef, undef, undef, undef, undef, undef, undef, undef], []⟩) k ⟨f, 0, (fun i_ => [Value.int .i64 0, undef, undef, undef, undef, undef, undef, undef, undef].getD i_ undef), (FM.le.refl _), HS11, h, (by kernel_rfl)⟩ ?_
  clear h
  rintro n26 _ W29 ⟨f27, x32, j31, L28, HS30, h, rfl⟩ K24 hK25
  obtain _ | n26 := n26
  · exact nomatch h
  simp only [frac_made.l0] at h
  refine wp_seq_k (fun K33 hK34 => ?_)
  refine wp_region_lit ?_
  refine seqS1 (a' := ⟨#[.int .i64 n1, .int .i64 d2, .slice A4 ok3.length c5, undef, undef, undef, .pointer (some ⟨b9, 0, none⟩), (j31 0), undef, (j31 1), .slice A4 ok3.length c5, .int .i64 (ok3.length : Int), .int .i64 x32, .bool (decide (x32 < (ok3.length : Int))), (j31 3), (j31 4), (j31 5), (j31 6), (j31 7), (j31 8), undef, undef, undef, undef, undef, undef, undef, undef, undef, undef, undef, undef, undef, undef], []⟩) (by kernel_rfl) ?_
  refine wpList_nil ?_
  refine hK34 _ _ ?_
  refine wp_seq_k (fun K35 hK36 => ?_)
  have hq_ := ite_some h; clear h; rcases hq_ with ⟨c38, h⟩ | ⟨c38, h⟩
  · have c38 : x32 < (ok3.length : Int) := c38
    refine wpRwI 13 (x := (decide (x32 < (ok3.length : Int)))) (v := true) (by kernel_rfl) (decide_eq_true c38) ?_
    refine condT (by kernel_rfl) ?_
    refine wp_skip ?_
    refine hK36 _ _ ?_
    refine wp_seq_k (fun K39 hK40 => ?_)
    refine blockK (fun B41 hx42 hn43 hr44 ho45 hp46 => ?_)
    refine wp_seq_k (fun K48 hK49 => ?_)
    refine wp_region_lit ?_
    have hq_ := guard_some h; clear h; obtain ⟨c50, h⟩ := hq_
    have c50 : 0 ≤ x32 := c50
    obtain ⟨b54, of55, cs51, rfl, hr52, hc53⟩ := (HR6.mono L28).at (i := x32) c50 c38
    obtain rfl := hr52
    refine seqK rfl (does_run (run_index (sz := 1) rfl Try.underlying95 (by kernel_rfl) (by kernel_rfl : _ = Value.slice (some ⟨b54, of55, none⟩) ok3.length c5) (by kernel_rfl : _ = Value.int .i64 x32) c50 c38 W29) ?_)
    refine seqK rfl (does_run (run_load rfl Try.underlying4 rfl (by kernel_rfl : _ = Value.pointer (some ⟨b54, of55 + (x32 : Int).toNat * 1, none⟩)) ((hc53 (FM.le.refl _) HS30) 0 (by decide))) ?_)
    refine seqS1 (a' := ⟨#[.int .i64 n1, .int .i64 d2, .slice (some ⟨b54, of55, none⟩) ok3.length c5, undef, undef, undef, .pointer (some ⟨b9, 0, none⟩), (j31 0), undef, .bool (rd ok3 x32), .slice (some ⟨b54, of55, none⟩) ok3.length c5, .int .i64 (ok3.length : Int), .int .i64 x32, .bool true, .pointer (some ⟨b54, of55 + (x32 : Int).toNat * 1, none⟩), .bool (rd ok3 x32), (j31 5), (j31 6), (j31 7), (j31 8), undef, undef, undef, undef, undef, undef, undef, undef, undef, undef, undef, undef, undef, undef], []⟩) (by kernel_rfl) ?_
    refine wpList_nil ?_
    refine hK49 _ _ ?_
    refine wp_seq_k (fun K56 hK57 => ?_)
    refine wp_region_lit ?_
    refine seqS2 (a' := ⟨#[.int .i64 n1, .int .i64 d2, .slice (some ⟨b54, of55, none⟩) ok3.length c5, undef, undef, undef, .pointer (some ⟨b9, 0, none⟩), (j31 0), undef, .bool (rd ok3 x32), .slice (some ⟨b54, of55, none⟩) ok3.length c5, .int .i64 (ok3.length : Int), .int .i64 x32, .bool true, .pointer (some ⟨b54, of55 + (x32 : Int).toNat * 1, none⟩), .bool (rd ok3 x32), .bool (rd ok3 x32), .bool (!(rd ok3 x32)), (j31 7), (j31 8), undef, undef, undef, undef, undef, undef, undef, undef, undef, undef, undef, undef, undef, undef], []⟩) (by kernel_rfl) ?_
    refine wpList_nil ?_
    refine hK57 _ _ ?_
    have hq_ := ite_some h; clear h; rcases hq_ with ⟨c59, h⟩ | ⟨c59, h⟩
    · have c59 : ¬ ((rd ok3 x32) = true) := c59
      refine wpRwI 17 (x := (!(rd ok3 x32))) (v := true) (by kernel_rfl) (congrArg (fun b_ => !b_) (show (rd ok3 x32) = false from (Bool.eq_false_iff.mpr c59)) : (!(rd ok3 x32)) = true) ?_
      refine condT (by kernel_rfl) ?_
      refine wp_seq_k (fun K60 hK61 => ?_)
      refine wp_region_lit ?_
      refine seqL1 (by kernel_rfl) ?_
      refine seqK rfl (does_store (n := 2) (vs := [.int .i64 0, .int .i64 0]) (cs' := #[.int .i64 0, .int .i64 0]) rfl (by kernel_rfl) (by kernel_rfl : _ = Value.pointer (some ⟨b9, 0, none⟩)) (by kernel_rfl : _ = Value.agg #[.int .i64 0, .int .i64 0]) rfl rfl (by intro u_ hu_; simp only [List.mem_cons, List.not_mem_nil, or_false] at hu_; rcases hu_ with rfl | rfl <;> rfl) HS30 (Nat.le_of_ble_eq_true rfl) (by kernel_rfl) ?_)
      intro W62 HS63
      refine seqS1 (a' := ⟨#[.int .i64 n1, .int .i64 d2, .slice (some ⟨b54, of55, none⟩) ok3.length c5, undef, undef, undef, .pointer (some ⟨b9, 0, none⟩), .int .i64 2, undef, .bool (rd ok3 x32), .slice (some ⟨b54, of55, none⟩) ok3.length c5, .int .i64 (ok3.length : Int), .int .i64 x32, .bool true, .pointer (some ⟨b54, of55 + (x32 : Int).toNat * 1, none⟩), .bool (rd ok3 x32), .bool (rd ok3 x32), .bool true, .agg #[.int .i64 0, .int .i64 0], (j31 8), undef, undef, undef, undef, undef, undef, undef, undef, undef, undef, undef, undef, undef, undef], []⟩) (by kernel_rfl) ?_
      refine wpList_nil ?_
      refine hK61 _ _ ?_
      refine wp_ret ?_
      refine hr44 _ _ ?_
      refine hr20 _ _ ?_
      refine hret _ _ ?_
      refine ends (v := Value.tuple #[.agg #[.int .i64 0, .int .i64 0], .int .i64 2]) (results2 (q1 := .cell 6 41) (q2 := .tmp 7) (by kernel_rfl) (resN (n := 2) (cs := [.int .i64 0, .int .i64 0]) (by kernel_rfl : _ = Value.pointer (some ⟨b9, 0, none⟩)) Try.underlying41 rfl (by kernel_rfl) rfl (HS63.cells 0 2 _ rfl)) (resT (by kernel_rfl : _ = Value.int .i64 2))) (by kernel_rfl) ?_
      have HS97 := HS63.drop
      replace h := JR71 _ h
      injection h with h
      injection h with h0_ h
      subst h0_ h
      exact ⟨f27, rfl, L28, HS97⟩
    · have c59 : ¬ (¬ ((rd ok3 x32) = true)) := c59
      refine wpRwI 17 (x := (!(rd ok3 x32))) (v := false) (by kernel_rfl) (congrArg (fun b_ => !b_) (show (rd ok3 x32) = true from (Decidable.of_not_not c59)) : (!(rd ok3 x32)) = false) ?_
      refine condF (by kernel_rfl) ?_
      refine wp_skip ?_
      refine hn43 _ _ ?_
      refine hK40 _ _ ?_
      refine wp_region_lit ?_
      refine seqS2 (a' := ⟨#[.int .i64 n1, .int .i64 d2, .slice (some ⟨b54, of55, none⟩) ok3.length c5, undef, undef, undef, .pointer (some ⟨b9, 0, none⟩), (j31 0), undef, .bool (rd ok3 x32), .slice (some ⟨b54, of55, none⟩) ok3.length c5, .int .i64 (ok3.length : Int), .int .i64 (w64 (x32 + 1)), .bool true, .pointer (some ⟨b54, of55 + (x32 : Int).toNat * 1, none⟩), .bool (rd ok3 x32), .bool (rd ok3 x32), .bool false, (j31 7), .int .i64 (w64 (x32 + 1)), undef, undef, undef, undef, undef, undef, undef, undef, undef, undef, undef, undef, undef, undef], []⟩) (by kernel_rfl) ?_
      refine wpList_nil ?_
      refine hK25 n26 _ _ (Nat.lt_succ_self _) ?_
      exact ⟨f27, (w64 (x32 + 1)), (fun i_ => [(j31 0), Value.bool (rd ok3 x32), Value.bool true, Value.pointer (some ⟨b54, of55 + (x32 : Int).toNat * 1, none⟩), Value.bool (rd ok3 x32), Value.bool (rd ok3 x32), Value.bool false, (j31 7), Value.int .i64 (w64 (x32 + 1))].getD i_ undef), L28, HS30, h, (by kernel_rfl)⟩
  · have c38 : ¬ (x32 < (ok3.length : Int)) := c38
    refine wpRwI 13 (x := (decide (x32 < (ok3.length : Int)))) (v := false) (by kernel_rfl) (decide_eq_false c38) ?_
    refine condF (by kernel_rfl) ?_
    refine wp_exit ?_
    refine hx18 _ _ ?_
    exact J70 f27 (fun i_ => [(j31 0), (j31 1), Value.int .i64 x32, Value.bool false, (j31 3), (j31 4), (j31 5), (j31 6), (j31 7), (j31 8)].getD i_ undef) W29 _ L28 h HS30 (by kernel_rfl)

set_option maxRecDepth 100000 in
set_option maxHeartbeats 4000000 in
theorem frac_Mul.calls (k : Nat)  (a1 : S_Frac) (b2 : S_Frac) {t w : World} {f : FM} {H : List Seg} (HS : St t w f (H)) (r1 : S_Frac) (r2 : Int) (h : frac_Mul k a1 b2 = some (r1, r2)) :
    Calls Try.prog 29 #[.agg #[.int .i64 a1.Num, .int .i64 a1.Den], .agg #[.int .i64 b2.Num, .int .i64 b2.Den]] w (fun e w' => ∃ (g : FM), e = .returned (Value.tuple #[.agg #[.int .i64 r1.Num, .int .i64 r1.Den], .int .i64 r2]) ∧ FM.le f g ∧ St t w' g (H)) := by
  unfold frac_Mul at h
  refine enter Try.func29 rfl (tm := #[.agg #[.int .i64 a1.Num, .int .i64 a1.Den], .agg #[.int .i64 b2.Num, .int .i64 b2.Den], undef, undef, undef, undef, undef, undef, undef, undef, undef, undef, undef, undef, undef, undef, undef, undef, undef, undef, undef, undef, undef, undef, undef, undef, undef, undef, undef, undef, undef, undef, undef, undef, undef, undef, undef, undef, undef, undef, undef, undef, undef, undef, undef, undef, undef, undef, undef, undef, undef, undef, undef, undef, undef, undef, undef, undef, undef, undef, undef, undef]) (by kernel_rfl) ?_
  intro B hret hnor hnp
  refine wp_seq_k (fun K3 hK4 => ?_)
  refine wp_region_lit ?_
  refine seqK rfl (does_box (cs := #[.int .i64 a1.Num, .int .i64 a1.Den]) rfl (by kernel_rfl : _ = Value.agg #[.int .i64 a1.Num, .int .i64 a1.Den]) rfl HS ?_)
  intro b5 W6 HS7
  refine seqK rfl (does_box (cs := #[.int .i64 b2.Num, .int .i64 b2.Den]) rfl (by kernel_rfl : _ = Value.agg #[.int .i64 b2.Num, .int .i64 b2.Den]) rfl HS7 ?_)
  intro b9 W10 HS11
  refine seqK rfl (does_alloc (z := Value.agg #[.int .i64 0, .int .i64 0]) (cs := #[.int .i64 0, .int .i64 0]) rfl (by kernel_rfl) rfl HS11 ?_)
  intro b13 W14 HS15
  refine seqS1 (a' := ⟨#[.agg #[.int .i64 a1.Num, .int .i64 a1.Den], .agg #[.int .i64 b2.Num, .int .i64 b2.Den], .pointer (some ⟨b5, 0, none⟩), .pointer (some ⟨b9, 0, none⟩), .pointer (some ⟨b13, 0, none⟩), .int .i64 0, undef, undef, undef, undef, undef, undef, undef, undef, undef, undef, undef, undef, undef, undef, undef, undef, undef, undef, undef, undef, undef, undef, undef, undef, undef, undef, undef, undef, undef, undef, undef, undef, undef, undef, undef, undef, undef, undef, undef, undef, undef, undef, undef, undef, undef, undef, undef, undef, undef, undef, undef, undef, undef, undef, undef, undef], []⟩) (by kernel_rfl) ?_
  refine wpList_nil ?_
  refine hK4 _ _ ?_
  refine wp_seq_k (fun K17 hK18 => ?_)
  refine wp_seq_k (fun K19 hK20 => ?_)
  refine wp_region_lit ?_
  refine seqK rfl (does_run (run_loadN (n := 2) rfl Try.underlying41 rfl (by kernel_rfl) (by kernel_rfl : _ = Value.pointer (some ⟨b5, 0, none⟩)) (cs := [.int .i64 a1.Num, .int .i64 a1.Den]) rfl (HS15.u2.cells 0 2 _ rfl)) ?_)
  refine seqK rfl (does_run (run_loadN (n := 2) rfl Try.underlying41 rfl (by kernel_rfl) (by kernel_rfl : _ = Value.pointer (some ⟨b9, 0, none⟩)) (cs := [.int .i64 b2.Num, .int .i64 b2.Den]) rfl (HS15.u1.cells 0 2 _ rfl)) ?_)
  have hq_ := bind_some h; clear h; obtain ⟨vt21, hc22, h⟩ := hq_
  refine seqK rfl (does_call (f := 37) (args := #[.agg #[.int .i64 a1.Num, .int .i64 a1.Den], .agg #[.int .i64 b2.Num, .int .i64 b2.Den]]) (by kernel_rfl) (frac_both.calls k a1 b2 HS15 vt21 hc22) ?_)
  rintro _ W25 ⟨f23, rfl, L24, HS26⟩
  refine ⟨_, rfl, ?_⟩
  refine seqS1 (a' := ⟨#[.agg #[.int .i64 a1.Num, .int .i64 a1.Den], .agg #[.int .i64 b2.Num, .int .i64 b2.Den], .pointer (some ⟨b5, 0, none⟩), .pointer (some ⟨b9, 0, none⟩), .pointer (some ⟨b13, 0, none⟩), .int .i64 0, .int .i64 vt21, undef, undef, undef, undef, undef, undef, .agg #[.int .i64 a1.Num, .int .i64 a1.Den], .agg #[.int .i64 b2.Num, .int .i64 b2.Den], .int .i64 vt21, undef, undef, undef, undef, undef, undef, undef, undef, undef, undef, undef, undef, undef, undef, undef, undef, undef, undef, undef, undef, undef, undef, undef, undef, undef, undef, undef, undef, undef, undef, undef, undef, undef, undef, undef, undef, undef, undef, undef, undef, undef, undef, undef, undef, undef, undef], []⟩) (by kernel_rfl) ?_
  refine wpList_nil ?_
  refine hK20 _ _ ?_
  refine wp_seq_k (fun K27 hK28 => ?_)
  refine wp_region_lit ?_
  refine seqS2 (a' := ⟨#[.agg #[.int .i64 a1.Num, .int .i64 a1.Den], .agg #[.int .i64 b2.Num, .int .i64 b2.Den], .pointer (some ⟨b5, 0, none⟩), .pointer (some ⟨b9, 0, none⟩), .pointer (some ⟨b13, 0, none⟩), .int .i64 0, .int .i64 vt21, undef, undef, undef, undef, undef, undef, .agg #[.int .i64 a1.Num, .int .i64 a1.Den], .agg #[.int .i64 b2.Num, .int .i64 b2.Den], .int .i64 vt21, .int .i64 vt21, .bool (vt21 != 0), undef, undef, undef, undef, undef, undef, undef, undef, undef, undef, undef, undef, undef, undef, undef, undef, undef, undef, undef, undef, undef, undef, undef, undef, undef, undef, undef, undef, undef, undef, undef, undef, undef, undef, undef, undef, undef, undef, undef, undef, undef, undef, undef, undef], []⟩) (by kernel_rfl) ?_
  refine wpList_nil ?_
  refine hK28 _ _ ?_
  have hq_ := ite_some h; clear h; rcases hq_ with ⟨c30, h⟩ | ⟨c30, h⟩
  · have c30 : vt21 ≠ 0 := c30
    refine wpRwI 17 (x := (vt21 != 0)) (v := true) (by kernel_rfl) (bne_iff_ne.mpr c30) ?_
    refine condT (by kernel_rfl) ?_
    refine wp_seq_k (fun K31 hK32 => ?_)
    refine wp_region_lit ?_
    refine seqL2 (by kernel_rfl) ?_
    refine seqK rfl (does_store (n := 2) (vs := [.int .i64 0, .int .i64 0]) (cs' := #[.int .i64 0, .int .i64 0]) rfl (by kernel_rfl) (by kernel_rfl : _ = Value.pointer (some ⟨b13, 0, none⟩)) (by kernel_rfl : _ = Value.agg #[.int .i64 0, .int .i64 0]) rfl rfl (by intro u_ hu_; simp only [List.mem_cons, List.not_mem_nil, or_false] at hu_; rcases hu_ with rfl | rfl <;> rfl) HS26 (Nat.le_of_ble_eq_true rfl) (by kernel_rfl) ?_)
    intro W33 HS34
    refine seqS1 (a' := ⟨#[.agg #[.int .i64 a1.Num, .int .i64 a1.Den], .agg #[.int .i64 b2.Num, .int .i64 b2.Den], .pointer (some ⟨b5, 0, none⟩), .pointer (some ⟨b9, 0, none⟩), .pointer (some ⟨b13, 0, none⟩), .int .i64 vt21, .int .i64 vt21, undef, undef, undef, undef, undef, undef, .agg #[.int .i64 a1.Num, .int .i64 a1.Den], .agg #[.int .i64 b2.Num, .int .i64 b2.Den], .int .i64 vt21, .int .i64 vt21, .bool true, .agg #[.int .i64 0, .int .i64 0], .int .i64 vt21, undef, undef, undef, undef, undef, undef, undef, undef, undef, undef, undef, undef, undef, undef, undef, undef, undef, undef, undef, undef, undef, undef, undef, undef, undef, undef, undef, undef, undef, undef, undef, undef, undef, undef, undef, undef, undef, undef, undef, undef, undef, undef], []⟩) (by kernel_rfl) ?_
    refine wpList_nil ?_
    refine hK32 _ _ ?_
    refine wp_ret ?_
    refine hret _ _ ?_
    refine ends (v := Value.tuple #[.agg #[.int .i64 0, .int .i64 0], .int .i64 vt21]) (results2 (q1 := .cell 4 41) (q2 := .tmp 5) (by kernel_rfl) (resN (n := 2) (cs := [.int .i64 0, .int .i64 0]) (by kernel_rfl : _ = Value.pointer (some ⟨b13, 0, none⟩)) Try.underlying41 rfl (by kernel_rfl) rfl (HS34.cells 0 2 _ rfl)) (resT (by kernel_rfl : _ = Value.int .i64 vt21))) (by kernel_rfl) ?_
    have HS101 := HS34.drop
    have HS102 := HS101.drop
    have HS103 := HS102.drop
    injection h with h
    injection h with h0_ h
    subst h0_ h
    exact ⟨f23, rfl, L24, HS103⟩
  · have c30 : ¬ (vt21 ≠ 0) := c30
    refine wpRwI 17 (x := (vt21 != 0)) (v := false) (by kernel_rfl) (bne_eq_false_iff_eq.mpr (Decidable.of_not_not c30)) ?_
    refine condF (by kernel_rfl) ?_
    refine wp_skip ?_
    refine hK18 _ _ ?_
    refine wp_seq_k (fun K35 hK36 => ?_)
    refine heldG (S := Sg t f23 ([(b13, .cells #[.int .i64 0, .int .i64 0] 41 (0, 0))] :: [(b9, .cells #[.int .i64 b2.Num, .int .i64 b2.Den] 41 (0, 0))] :: [(b5, .cells #[.int .i64 a1.Num, .int .i64 a1.Den] 41 (0, 0))] :: H) []) (n := 12) (by kernel_rfl) rfl HS26 ?_
    intro W37 HS38
    refine takeG [0] (n := 12) (fuel := 11) (l' := #[true, false, false, false, false, false, false, false, false, false, false, false]) (a' := ⟨#[.agg #[.int .i64 a1.Num, .int .i64 a1.Den], .agg #[.int .i64 b2.Num, .int .i64 b2.Den], .pointer (some ⟨b5, 0, none⟩), .pointer (some ⟨b9, 0, none⟩), .pointer (some ⟨b13, 0, none⟩), .int .i64 0, .int .i64 vt21, undef, undef, undef, undef, undef, undef, .agg #[.int .i64 a1.Num, .int .i64 a1.Den], .agg #[.int .i64 b2.Num, .int .i64 b2.Den], .int .i64 vt21, .int .i64 vt21, .bool false, undef, undef, .pointer (some ⟨b5, 0, none⟩), undef, undef, undef, undef, undef, undef, undef, undef, undef, undef, undef, undef, undef, undef, undef, undef, undef, undef, undef, undef, undef, undef, undef, undef, undef, undef, undef, undef, undef, undef, undef, undef, undef, undef, undef, undef, undef, undef, undef, undef, undef], []⟩) rfl (by kernel_rfl) (by kernel_rfl) (by kernel_rfl) hnp (Sg.g0 (Sx.of [] (FM.le.refl _) HS38)) ?_
    refine takeGQ 1 [] rfl (by kernel_rfl) (by kernel_rfl) (by kernel_rfl) (by kernel_rfl) (by kernel_rfl) (by kernel_rfl) hnp (Sg.g0 (Sx.of [] (FM.le.refl _) HS38)) (fun w_ hw_ => by obtain ⟨g_, hl_, hS_⟩ := hw_.st; exact run_load rfl Try.underlying2 rfl (by kernel_rfl : _ = Value.pointer (some ⟨b5, 0, none⟩)) (hS_.u2.cell 0)) ?_
    refine takeG [2] (n := 10) (fuel := 9) (l' := #[true, true, true, false, false, false, false, false, false, false, false, false]) (a' := ⟨#[.agg #[.int .i64 a1.Num, .int .i64 a1.Den], .agg #[.int .i64 b2.Num, .int .i64 b2.Den], .pointer (some ⟨b5, 0, none⟩), .pointer (some ⟨b9, 0, none⟩), .pointer (some ⟨b13, 0, none⟩), .int .i64 0, .int .i64 vt21, undef, undef, undef, undef, undef, undef, .agg #[.int .i64 a1.Num, .int .i64 a1.Den], .agg #[.int .i64 b2.Num, .int .i64 b2.Den], .int .i64 vt21, .int .i64 vt21, .bool false, undef, undef, .pointer (some ⟨b5, 0, none⟩), .int .i64 a1.Num, .pointer (some ⟨b9, 1, none⟩), undef, undef, undef, undef, undef, undef, undef, undef, undef, undef, undef, undef, undef, undef, undef, undef, undef, undef, undef, undef, undef, undef, undef, undef, undef, undef, undef, undef, undef, undef, undef, undef, undef, undef, undef, undef, undef, undef, undef], []⟩) rfl (by kernel_rfl) (by kernel_rfl) (by kernel_rfl) hnp (Sg.g0 (Sx.of [] (FM.le.refl _) HS38)) ?_
    refine takeGQ 3 [] rfl (by kernel_rfl) (by kernel_rfl) (by kernel_rfl) (by kernel_rfl) (by kernel_rfl) (by kernel_rfl) hnp (Sg.g0 (Sx.of [] (FM.le.refl _) HS38)) (fun w_ hw_ => by obtain ⟨g_, hl_, hS_⟩ := hw_.st; exact run_load rfl Try.underlying2 rfl (by kernel_rfl : _ = Value.pointer (some ⟨b9, 1, none⟩)) (hS_.u1.cell 1)) ?_
    refine takeG [5] (n := 8) (fuel := 7) (l' := #[true, true, true, true, false, true, false, false, false, false, false, false]) (a' := ⟨#[.agg #[.int .i64 a1.Num, .int .i64 a1.Den], .agg #[.int .i64 b2.Num, .int .i64 b2.Den], .pointer (some ⟨b5, 0, none⟩), .pointer (some ⟨b9, 0, none⟩), .pointer (some ⟨b13, 0, none⟩), .int .i64 0, .int .i64 vt21, undef, undef, undef, undef, undef, undef, .agg #[.int .i64 a1.Num, .int .i64 a1.Den], .agg #[.int .i64 b2.Num, .int .i64 b2.Den], .int .i64 vt21, .int .i64 vt21, .bool false, undef, undef, .pointer (some ⟨b5, 0, none⟩), .int .i64 a1.Num, .pointer (some ⟨b9, 1, none⟩), .int .i64 b2.Den, undef, .pointer (some ⟨b9, 0, none⟩), undef, undef, undef, undef, undef, undef, undef, undef, undef, undef, undef, undef, undef, undef, undef, undef, undef, undef, undef, undef, undef, undef, undef, undef, undef, undef, undef, undef, undef, undef, undef, undef, undef, undef, undef, undef], []⟩) rfl (by kernel_rfl) (by kernel_rfl) (by kernel_rfl) hnp (Sg.g0 (Sx.of [] (FM.le.refl _) HS38)) ?_
    refine takeGQ 6 [] rfl (by kernel_rfl) (by kernel_rfl) (by kernel_rfl) (by kernel_rfl) (by kernel_rfl) (by kernel_rfl) hnp (Sg.g0 (Sx.of [] (FM.le.refl _) HS38)) (fun w_ hw_ => by obtain ⟨g_, hl_, hS_⟩ := hw_.st; exact run_load rfl Try.underlying2 rfl (by kernel_rfl : _ = Value.pointer (some ⟨b9, 0, none⟩)) (hS_.u1.cell 0)) ?_
    refine takeG [7] (n := 6) (fuel := 5) (l' := #[true, true, true, true, false, true, true, true, false, false, false, false]) (a' := ⟨#[.agg #[.int .i64 a1.Num, .int .i64 a1.Den], .agg #[.int .i64 b2.Num, .int .i64 b2.Den], .pointer (some ⟨b5, 0, none⟩), .pointer (some ⟨b9, 0, none⟩), .pointer (some ⟨b13, 0, none⟩), .int .i64 0, .int .i64 vt21, undef, undef, undef, undef, undef, undef, .agg #[.int .i64 a1.Num, .int .i64 a1.Den], .agg #[.int .i64 b2.Num, .int .i64 b2.Den], .int .i64 vt21, .int .i64 vt21, .bool false, undef, undef, .pointer (some ⟨b5, 0, none⟩), .int .i64 a1.Num, .pointer (some ⟨b9, 1, none⟩), .int .i64 b2.Den, undef, .pointer (some ⟨b9, 0, none⟩), .int .i64 b2.Num, .pointer (some ⟨b5, 1, none⟩), undef, undef, undef, undef, undef, undef, undef, undef, undef, undef, undef, undef, undef, undef, undef, undef, undef, undef, undef, undef, undef, undef, undef, undef, undef, undef, undef, undef, undef, undef, undef, undef, undef, undef], []⟩) rfl (by kernel_rfl) (by kernel_rfl) (by kernel_rfl) hnp (Sg.g0 (Sx.of [] (FM.le.refl _) HS38)) ?_
    refine takeGQ 8 [] rfl (by kernel_rfl) (by kernel_rfl) (by kernel_rfl) (by kernel_rfl) (by kernel_rfl) (by kernel_rfl) hnp (Sg.g0 (Sx.of [] (FM.le.refl _) HS38)) (fun w_ hw_ => by obtain ⟨g_, hl_, hS_⟩ := hw_.st; exact run_load rfl Try.underlying2 rfl (by kernel_rfl : _ = Value.pointer (some ⟨b5, 1, none⟩)) (hS_.u2.cell 1)) ?_
    have hq_ := bind_some h; clear h; obtain ⟨vt39, hc40, h⟩ := hq_
    refine takeGE 4 (by kernel_rfl) rfl (by kernel_rfl) (does_call (f := 38) (args := #[.int .i64 a1.Num, .int .i64 b2.Den]) (by kernel_rfl) (num_Gcd.calls k a1.Num b2.Den HS38 vt39 hc40) ?_)
    rintro _ W43 ⟨f41, rfl, L42, HS44⟩
    refine ⟨_, rfl, ?_⟩
    refine ⟨(Sg.g0 (Sx.of [] L42 HS44)), ?_⟩
    have hq_ := bind_some h; clear h; obtain ⟨vt45, hc46, h⟩ := hq_
    refine takeGE 9 (by kernel_rfl) rfl (by kernel_rfl) (does_call (f := 38) (args := #[.int .i64 b2.Num, .int .i64 a1.Den]) (by kernel_rfl) (num_Gcd.calls k b2.Num a1.Den HS44 vt45 hc46) ?_)
    rintro _ W49 ⟨f47, rfl, L48, HS50⟩
    refine ⟨_, rfl, ?_⟩
    refine ⟨(Sg.g0 (Sx.of [] (L42.trans L48) HS50)), ?_⟩
    refine takeG [10, 11] (n := 2) (fuel := 0) (l' := #[true, true, true, true, true, true, true, true, true, true, true, true]) (a' := ⟨#[.agg #[.int .i64 a1.Num, .int .i64 a1.Den], .agg #[.int .i64 b2.Num, .int .i64 b2.Den], .pointer (some ⟨b5, 0, none⟩), .pointer (some ⟨b9, 0, none⟩), .pointer (some ⟨b13, 0, none⟩), .int .i64 0, .int .i64 vt21, .int .i64 vt39, .int .i64 vt45, undef, undef, undef, undef, .agg #[.int .i64 a1.Num, .int .i64 a1.Den], .agg #[.int .i64 b2.Num, .int .i64 b2.Den], .int .i64 vt21, .int .i64 vt21, .bool false, undef, undef, .pointer (some ⟨b5, 0, none⟩), .int .i64 a1.Num, .pointer (some ⟨b9, 1, none⟩), .int .i64 b2.Den, .int .i64 vt39, .pointer (some ⟨b9, 0, none⟩), .int .i64 b2.Num, .pointer (some ⟨b5, 1, none⟩), .int .i64 a1.Den, .int .i64 vt45, undef, undef, undef, undef, undef, undef, undef, undef, undef, undef, undef, undef, undef, undef, undef, undef, undef, undef, undef, undef, undef, undef, undef, undef, undef, undef, undef, undef, undef, undef, undef, undef], []⟩) rfl (by kernel_rfl) (by kernel_rfl) (by kernel_rfl) hnp (Sg.g0 (Sx.of [] (L42.trans L48) HS50)) ?_
    refine doneG (by kernel_rfl) ?_ _
    refine hK36 _ _ ?_
    refine wp_seq_k (fun K51 hK52 => ?_)
    refine heldG (S := Sg t f47 ([(b13, .cells #[.int .i64 0, .int .i64 0] 41 (0, 0))] :: [(b9, .cells #[.int .i64 b2.Num, .int .i64 b2.Den] 41 (0, 0))] :: [(b5, .cells #[.int .i64 a1.Num, .int .i64 a1.Den] 41 (0, 0))] :: H) []) (n := 14) (by kernel_rfl) rfl HS50 ?_
    intro W53 HS54
    refine takeG [0] (n := 14) (fuel := 13) (l' := #[true, false, false, false, false, false, false, false, false, false, false, false, false, false]) (a' := ⟨#[.agg #[.int .i64 a1.Num, .int .i64 a1.Den], .agg #[.int .i64 b2.Num, .int .i64 b2.Den], .pointer (some ⟨b5, 0, none⟩), .pointer (some ⟨b9, 0, none⟩), .pointer (some ⟨b13, 0, none⟩), .int .i64 0, .int .i64 vt21, .int .i64 vt39, .int .i64 vt45, undef, undef, undef, undef, .agg #[.int .i64 a1.Num, .int .i64 a1.Den], .agg #[.int .i64 b2.Num, .int .i64 b2.Den], .int .i64 vt21, .int .i64 vt21, .bool false, undef, undef, .pointer (some ⟨b5, 0, none⟩), .int .i64 a1.Num, .pointer (some ⟨b9, 1, none⟩), .int .i64 b2.Den, .int .i64 vt39, .pointer (some ⟨b9, 0, none⟩), .int .i64 b2.Num, .pointer (some ⟨b5, 1, none⟩), .int .i64 a1.Den, .int .i64 vt45, undef, .pointer (some ⟨b5, 0, none⟩), undef, undef, undef, undef, undef, undef, undef, undef, undef, undef, undef, undef, undef, undef, undef, undef, undef, undef, undef, undef, undef, undef, undef, undef, undef, undef, undef, undef, undef, undef], []⟩) rfl (by kernel_rfl) (by kernel_rfl) (by kernel_rfl) hnp (Sg.g0 (Sx.of [] (FM.le.refl _) HS54)) ?_
    refine takeGQ 1 [] rfl (by kernel_rfl) (by kernel_rfl) (by kernel_rfl) (by kernel_rfl) (by kernel_rfl) (by kernel_rfl) hnp (Sg.g0 (Sx.of [] (FM.le.refl _) HS54)) (fun w_ hw_ => by obtain ⟨g_, hl_, hS_⟩ := hw_.st; exact run_load rfl Try.underlying2 rfl (by kernel_rfl : _ = Value.pointer (some ⟨b5, 0, none⟩)) (hS_.u2.cell 0)) ?_
    have hq_ := guard_some h; clear h; obtain ⟨c55, h⟩ := hq_
    have c55 : ¬ (vt39 = 0) := c55
    refine takeG [2] (n := 12) (fuel := 11) (l' := #[true, true, true, false, false, false, false, false, false, false, false, false, false, false]) (a' := ⟨#[.agg #[.int .i64 a1.Num, .int .i64 a1.Den], .agg #[.int .i64 b2.Num, .int .i64 b2.Den], .pointer (some ⟨b5, 0, none⟩), .pointer (some ⟨b9, 0, none⟩), .pointer (some ⟨b13, 0, none⟩), .int .i64 0, .int .i64 vt21, .int .i64 vt39, .int .i64 vt45, undef, undef, undef, undef, .agg #[.int .i64 a1.Num, .int .i64 a1.Den], .agg #[.int .i64 b2.Num, .int .i64 b2.Den], .int .i64 vt21, .int .i64 vt21, .bool false, undef, undef, .pointer (some ⟨b5, 0, none⟩), .int .i64 a1.Num, .pointer (some ⟨b9, 1, none⟩), .int .i64 b2.Den, .int .i64 vt39, .pointer (some ⟨b9, 0, none⟩), .int .i64 b2.Num, .pointer (some ⟨b5, 1, none⟩), .int .i64 a1.Den, .int .i64 vt45, undef, .pointer (some ⟨b5, 0, none⟩), .int .i64 a1.Num, .int .i64 vt39, undef, undef, undef, undef, undef, undef, undef, undef, undef, undef, undef, undef, undef, undef, undef, undef, undef, undef, undef, undef, undef, undef, undef, undef, undef, undef, undef, undef], []⟩) rfl (by kernel_rfl) (by kernel_rfl) (by kernel_rfl) hnp (Sg.g0 (Sx.of [] (FM.le.refl _) HS54)) ?_
    refine takeGQ 3 [] rfl (by kernel_rfl) (by kernel_rfl) (by kernel_rfl) (by kernel_rfl) (by kernel_rfl) (by kernel_rfl) hnp (Sg.g0 (Sx.of [] (FM.le.refl _) HS54)) (fun w_ hw_ => by obtain ⟨g_, hl_, hS_⟩ := hw_.st; exact run_div rfl (by kernel_rfl : _ = Value.int .i64 a1.Num) (by kernel_rfl : _ = Value.int .i64 vt39) c55 w_) ?_
    refine takeG [4] (n := 10) (fuel := 9) (l' := #[true, true, true, true, true, false, false, false, false, false, false, false, false, false]) (a' := ⟨#[.agg #[.int .i64 a1.Num, .int .i64 a1.Den], .agg #[.int .i64 b2.Num, .int .i64 b2.Den], .pointer (some ⟨b5, 0, none⟩), .pointer (some ⟨b9, 0, none⟩), .pointer (some ⟨b13, 0, none⟩), .int .i64 0, .int .i64 vt21, .int .i64 vt39, .int .i64 vt45, undef, undef, undef, undef, .agg #[.int .i64 a1.Num, .int .i64 a1.Den], .agg #[.int .i64 b2.Num, .int .i64 b2.Den], .int .i64 vt21, .int .i64 vt21, .bool false, undef, undef, .pointer (some ⟨b5, 0, none⟩), .int .i64 a1.Num, .pointer (some ⟨b9, 1, none⟩), .int .i64 b2.Den, .int .i64 vt39, .pointer (some ⟨b9, 0, none⟩), .int .i64 b2.Num, .pointer (some ⟨b5, 1, none⟩), .int .i64 a1.Den, .int .i64 vt45, undef, .pointer (some ⟨b5, 0, none⟩), .int .i64 a1.Num, .int .i64 vt39, .int .i64 (w64 (Int.tdiv a1.Num vt39)), .pointer (some ⟨b9, 0, none⟩), undef, undef, undef, undef, undef, undef, undef, undef, undef, undef, undef, undef, undef, undef, undef, undef, undef, undef, undef, undef, undef, undef, undef, undef, undef, undef], []⟩) rfl (by kernel_rfl) (by kernel_rfl) (by kernel_rfl) hnp (Sg.g0 (Sx.of [] (FM.le.refl _) HS54)) ?_
    refine takeGQ 5 [] rfl (by kernel_rfl) (by kernel_rfl) (by kernel_rfl) (by kernel_rfl) (by kernel_rfl) (by kernel_rfl) hnp (Sg.g0 (Sx.of [] (FM.le.refl _) HS54)) (fun w_ hw_ => by obtain ⟨g_, hl_, hS_⟩ := hw_.st; exact run_load rfl Try.underlying2 rfl (by kernel_rfl : _ = Value.pointer (some ⟨b9, 0, none⟩)) (hS_.u1.cell 0)) ?_
    have hq_ := guard_some h; clear h; obtain ⟨c56, h⟩ := hq_
    have c56 : ¬ (vt45 = 0) := c56
    refine takeG [6] (n := 8) (fuel := 7) (l' := #[true, true, true, true, true, true, true, false, false, false, false, false, false, false]) (a' := ⟨#[.agg #[.int .i64 a1.Num, .int .i64 a1.Den], .agg #[.int .i64 b2.Num, .int .i64 b2.Den], .pointer (some ⟨b5, 0, none⟩), .pointer (some ⟨b9, 0, none⟩), .pointer (some ⟨b13, 0, none⟩), .int .i64 0, .int .i64 vt21, .int .i64 vt39, .int .i64 vt45, undef, undef, undef, undef, .agg #[.int .i64 a1.Num, .int .i64 a1.Den], .agg #[.int .i64 b2.Num, .int .i64 b2.Den], .int .i64 vt21, .int .i64 vt21, .bool false, undef, undef, .pointer (some ⟨b5, 0, none⟩), .int .i64 a1.Num, .pointer (some ⟨b9, 1, none⟩), .int .i64 b2.Den, .int .i64 vt39, .pointer (some ⟨b9, 0, none⟩), .int .i64 b2.Num, .pointer (some ⟨b5, 1, none⟩), .int .i64 a1.Den, .int .i64 vt45, undef, .pointer (some ⟨b5, 0, none⟩), .int .i64 a1.Num, .int .i64 vt39, .int .i64 (w64 (Int.tdiv a1.Num vt39)), .pointer (some ⟨b9, 0, none⟩), .int .i64 b2.Num, .int .i64 vt45, undef, undef, undef, undef, undef, undef, undef, undef, undef, undef, undef, undef, undef, undef, undef, undef, undef, undef, undef, undef, undef, undef, undef, undef], []⟩) rfl (by kernel_rfl) (by kernel_rfl) (by kernel_rfl) hnp (Sg.g0 (Sx.of [] (FM.le.refl _) HS54)) ?_
    refine takeGQ 7 [] rfl (by kernel_rfl) (by kernel_rfl) (by kernel_rfl) (by kernel_rfl) (by kernel_rfl) (by kernel_rfl) hnp (Sg.g0 (Sx.of [] (FM.le.refl _) HS54)) (fun w_ hw_ => by obtain ⟨g_, hl_, hS_⟩ := hw_.st; exact run_div rfl (by kernel_rfl : _ = Value.int .i64 b2.Num) (by kernel_rfl : _ = Value.int .i64 vt45) c56 w_) ?_
    have hq_ := bind_some h; clear h; obtain ⟨⟨vt57, vt58⟩, hc59, h⟩ := hq_
    refine takeGE 8 (by kernel_rfl) rfl (by kernel_rfl) (does_call (f := 39) (args := #[.int .i64 (w64 (Int.tdiv a1.Num vt39)), .int .i64 (w64 (Int.tdiv b2.Num vt45))]) (by kernel_rfl) (num_Mul.calls k (w64 (Int.tdiv a1.Num vt39)) (w64 (Int.tdiv b2.Num vt45)) HS54 vt57 vt58 hc59) ?_)
    rintro _ W62 ⟨f60, rfl, L61, HS63⟩
    refine ⟨_, rfl, ?_⟩
    refine ⟨(Sg.g0 (Sx.of [] L61 HS63)), ?_⟩
    refine takeG [9, 10, 11, 12, 13] (n := 5) (fuel := 0) (l' := #[true, true, true, true, true, true, true, true, true, true, true, true, true, true]) (a' := ⟨#[.agg #[.int .i64 a1.Num, .int .i64 a1.Den], .agg #[.int .i64 b2.Num, .int .i64 b2.Den], .pointer (some ⟨b5, 0, none⟩), .pointer (some ⟨b9, 0, none⟩), .pointer (some ⟨b13, 0, none⟩), .int .i64 0, .int .i64 vt21, .int .i64 vt39, .int .i64 vt45, .int .i64 vt57, .bool vt58, undef, undef, .agg #[.int .i64 a1.Num, .int .i64 a1.Den], .agg #[.int .i64 b2.Num, .int .i64 b2.Den], .int .i64 vt21, .int .i64 vt21, .bool false, undef, undef, .pointer (some ⟨b5, 0, none⟩), .int .i64 a1.Num, .pointer (some ⟨b9, 1, none⟩), .int .i64 b2.Den, .int .i64 vt39, .pointer (some ⟨b9, 0, none⟩), .int .i64 b2.Num, .pointer (some ⟨b5, 1, none⟩), .int .i64 a1.Den, .int .i64 vt45, .tuple #[.int .i64 vt57, .bool vt58], .pointer (some ⟨b5, 0, none⟩), .int .i64 a1.Num, .int .i64 vt39, .int .i64 (w64 (Int.tdiv a1.Num vt39)), .pointer (some ⟨b9, 0, none⟩), .int .i64 b2.Num, .int .i64 vt45, .int .i64 (w64 (Int.tdiv b2.Num vt45)), .tuple #[.int .i64 vt57, .bool vt58], .int .i64 vt57, .bool vt58, undef, undef, undef, undef, undef, undef, undef, undef, undef, undef, undef, undef, undef, undef, undef, undef, undef, undef, undef, undef], []⟩) rfl (by kernel_rfl) (by kernel_rfl) (by kernel_rfl) hnp (Sg.g0 (Sx.of [] L61 HS63)) ?_
    refine doneG (by kernel_rfl) ?_ _
    refine hK52 _ _ ?_
    refine wp_seq_k (fun K64 hK65 => ?_)
    refine heldG (S := Sg t f60 ([(b13, .cells #[.int .i64 0, .int .i64 0] 41 (0, 0))] :: [(b9, .cells #[.int .i64 b2.Num, .int .i64 b2.Den] 41 (0, 0))] :: [(b5, .cells #[.int .i64 a1.Num, .int .i64 a1.Den] 41 (0, 0))] :: H) []) (n := 14) (by kernel_rfl) rfl HS63 ?_
    intro W66 HS67
    refine takeG [0] (n := 14) (fuel := 13) (l' := #[true, false, false, false, false, false, false, false, false, false, false, false, false, false]) (a' := ⟨#[.agg #[.int .i64 a1.Num, .int .i64 a1.Den], .agg #[.int .i64 b2.Num, .int .i64 b2.Den], .pointer (some ⟨b5, 0, none⟩), .pointer (some ⟨b9, 0, none⟩), .pointer (some ⟨b13, 0, none⟩), .int .i64 0, .int .i64 vt21, .int .i64 vt39, .int .i64 vt45, .int .i64 vt57, .bool vt58, undef, undef, .agg #[.int .i64 a1.Num, .int .i64 a1.Den], .agg #[.int .i64 b2.Num, .int .i64 b2.Den], .int .i64 vt21, .int .i64 vt21, .bool false, undef, undef, .pointer (some ⟨b5, 0, none⟩), .int .i64 a1.Num, .pointer (some ⟨b9, 1, none⟩), .int .i64 b2.Den, .int .i64 vt39, .pointer (some ⟨b9, 0, none⟩), .int .i64 b2.Num, .pointer (some ⟨b5, 1, none⟩), .int .i64 a1.Den, .int .i64 vt45, .tuple #[.int .i64 vt57, .bool vt58], .pointer (some ⟨b5, 0, none⟩), .int .i64 a1.Num, .int .i64 vt39, .int .i64 (w64 (Int.tdiv a1.Num vt39)), .pointer (some ⟨b9, 0, none⟩), .int .i64 b2.Num, .int .i64 vt45, .int .i64 (w64 (Int.tdiv b2.Num vt45)), .tuple #[.int .i64 vt57, .bool vt58], .int .i64 vt57, .bool vt58, undef, .pointer (some ⟨b5, 1, none⟩), undef, undef, undef, undef, undef, undef, undef, undef, undef, undef, undef, undef, undef, undef, undef, undef, undef, undef], []⟩) rfl (by kernel_rfl) (by kernel_rfl) (by kernel_rfl) hnp (Sg.g0 (Sx.of [] (FM.le.refl _) HS67)) ?_
    refine takeGQ 1 [] rfl (by kernel_rfl) (by kernel_rfl) (by kernel_rfl) (by kernel_rfl) (by kernel_rfl) (by kernel_rfl) hnp (Sg.g0 (Sx.of [] (FM.le.refl _) HS67)) (fun w_ hw_ => by obtain ⟨g_, hl_, hS_⟩ := hw_.st; exact run_load rfl Try.underlying2 rfl (by kernel_rfl : _ = Value.pointer (some ⟨b5, 1, none⟩)) (hS_.u2.cell 1)) ?_
    refine takeG [2] (n := 12) (fuel := 11) (l' := #[true, true, true, false, false, false, false, false, false, false, false, false, false, false]) (a' := ⟨#[.agg #[.int .i64 a1.Num, .int .i64 a1.Den], .agg #[.int .i64 b2.Num, .int .i64 b2.Den], .pointer (some ⟨b5, 0, none⟩), .pointer (some ⟨b9, 0, none⟩), .pointer (some ⟨b13, 0, none⟩), .int .i64 0, .int .i64 vt21, .int .i64 vt39, .int .i64 vt45, .int .i64 vt57, .bool vt58, undef, undef, .agg #[.int .i64 a1.Num, .int .i64 a1.Den], .agg #[.int .i64 b2.Num, .int .i64 b2.Den], .int .i64 vt21, .int .i64 vt21, .bool false, undef, undef, .pointer (some ⟨b5, 0, none⟩), .int .i64 a1.Num, .pointer (some ⟨b9, 1, none⟩), .int .i64 b2.Den, .int .i64 vt39, .pointer (some ⟨b9, 0, none⟩), .int .i64 b2.Num, .pointer (some ⟨b5, 1, none⟩), .int .i64 a1.Den, .int .i64 vt45, .tuple #[.int .i64 vt57, .bool vt58], .pointer (some ⟨b5, 0, none⟩), .int .i64 a1.Num, .int .i64 vt39, .int .i64 (w64 (Int.tdiv a1.Num vt39)), .pointer (some ⟨b9, 0, none⟩), .int .i64 b2.Num, .int .i64 vt45, .int .i64 (w64 (Int.tdiv b2.Num vt45)), .tuple #[.int .i64 vt57, .bool vt58], .int .i64 vt57, .bool vt58, undef, .pointer (some ⟨b5, 1, none⟩), .int .i64 a1.Den, .int .i64 vt45, undef, undef, undef, undef, undef, undef, undef, undef, undef, undef, undef, undef, undef, undef, undef, undef], []⟩) rfl (by kernel_rfl) (by kernel_rfl) (by kernel_rfl) hnp (Sg.g0 (Sx.of [] (FM.le.refl _) HS67)) ?_
    refine takeGQ 3 [] rfl (by kernel_rfl) (by kernel_rfl) (by kernel_rfl) (by kernel_rfl) (by kernel_rfl) (by kernel_rfl) hnp (Sg.g0 (Sx.of [] (FM.le.refl _) HS67)) (fun w_ hw_ => by obtain ⟨g_, hl_, hS_⟩ := hw_.st; exact run_div rfl (by kernel_rfl : _ = Value.int .i64 a1.Den) (by kernel_rfl : _ = Value.int .i64 vt45) c56 w_) ?_
    refine takeG [4] (n := 10) (fuel := 9) (l' := #[true, true, true, true, true, false, false, false, false, false, false, false, false, false]) (a' := ⟨#[.agg #[.int .i64 a1.Num, .int .i64 a1.Den], .agg #[.int .i64 b2.Num, .int .i64 b2.Den], .pointer (some ⟨b5, 0, none⟩), .pointer (some ⟨b9, 0, none⟩), .pointer (some ⟨b13, 0, none⟩), .int .i64 0, .int .i64 vt21, .int .i64 vt39, .int .i64 vt45, .int .i64 vt57, .bool vt58, undef, undef, .agg #[.int .i64 a1.Num, .int .i64 a1.Den], .agg #[.int .i64 b2.Num, .int .i64 b2.Den], .int .i64 vt21, .int .i64 vt21, .bool false, undef, undef, .pointer (some ⟨b5, 0, none⟩), .int .i64 a1.Num, .pointer (some ⟨b9, 1, none⟩), .int .i64 b2.Den, .int .i64 vt39, .pointer (some ⟨b9, 0, none⟩), .int .i64 b2.Num, .pointer (some ⟨b5, 1, none⟩), .int .i64 a1.Den, .int .i64 vt45, .tuple #[.int .i64 vt57, .bool vt58], .pointer (some ⟨b5, 0, none⟩), .int .i64 a1.Num, .int .i64 vt39, .int .i64 (w64 (Int.tdiv a1.Num vt39)), .pointer (some ⟨b9, 0, none⟩), .int .i64 b2.Num, .int .i64 vt45, .int .i64 (w64 (Int.tdiv b2.Num vt45)), .tuple #[.int .i64 vt57, .bool vt58], .int .i64 vt57, .bool vt58, undef, .pointer (some ⟨b5, 1, none⟩), .int .i64 a1.Den, .int .i64 vt45, .int .i64 (w64 (Int.tdiv a1.Den vt45)), .pointer (some ⟨b9, 1, none⟩), undef, undef, undef, undef, undef, undef, undef, undef, undef, undef, undef, undef, undef, undef], []⟩) rfl (by kernel_rfl) (by kernel_rfl) (by kernel_rfl) hnp (Sg.g0 (Sx.of [] (FM.le.refl _) HS67)) ?_
    refine takeGQ 5 [] rfl (by kernel_rfl) (by kernel_rfl) (by kernel_rfl) (by kernel_rfl) (by kernel_rfl) (by kernel_rfl) hnp (Sg.g0 (Sx.of [] (FM.le.refl _) HS67)) (fun w_ hw_ => by obtain ⟨g_, hl_, hS_⟩ := hw_.st; exact run_load rfl Try.underlying2 rfl (by kernel_rfl : _ = Value.pointer (some ⟨b9, 1, none⟩)) (hS_.u1.cell 1)) ?_
    refine takeG [6] (n := 8) (fuel := 7) (l' := #[true, true, true, true, true, true, true, false, false, false, false, false, false, false]) (a' := ⟨#[.agg #[.int .i64 a1.Num, .int .i64 a1.Den], .agg #[.int .i64 b2.Num, .int .i64 b2.Den], .pointer (some ⟨b5, 0, none⟩), .pointer (some ⟨b9, 0, none⟩), .pointer (some ⟨b13, 0, none⟩), .int .i64 0, .int .i64 vt21, .int .i64 vt39, .int .i64 vt45, .int .i64 vt57, .bool vt58, undef, undef, .agg #[.int .i64 a1.Num, .int .i64 a1.Den], .agg #[.int .i64 b2.Num, .int .i64 b2.Den], .int .i64 vt21, .int .i64 vt21, .bool false, undef, undef, .pointer (some ⟨b5, 0, none⟩), .int .i64 a1.Num, .pointer (some ⟨b9, 1, none⟩), .int .i64 b2.Den, .int .i64 vt39, .pointer (some ⟨b9, 0, none⟩), .int .i64 b2.Num, .pointer (some ⟨b5, 1, none⟩), .int .i64 a1.Den, .int .i64 vt45, .tuple #[.int .i64 vt57, .bool vt58], .pointer (some ⟨b5, 0, none⟩), .int .i64 a1.Num, .int .i64 vt39, .int .i64 (w64 (Int.tdiv a1.Num vt39)), .pointer (some ⟨b9, 0, none⟩), .int .i64 b2.Num, .int .i64 vt45, .int .i64 (w64 (Int.tdiv b2.Num vt45)), .tuple #[.int .i64 vt57, .bool vt58], .int .i64 vt57, .bool vt58, undef, .pointer (some ⟨b5, 1, none⟩), .int .i64 a1.Den, .int .i64 vt45, .int .i64 (w64 (Int.tdiv a1.Den vt45)), .pointer (some ⟨b9, 1, none⟩), .int .i64 b2.Den, .int .i64 vt39, undef, undef, undef, undef, undef, undef, undef, undef, undef, undef, undef, undef], []⟩) rfl (by kernel_rfl) (by kernel_rfl) (by kernel_rfl) hnp (Sg.g0 (Sx.of [] (FM.le.refl _) HS67)) ?_
    refine takeGQ 7 [] rfl (by kernel_rfl) (by kernel_rfl) (by kernel_rfl) (by kernel_rfl) (by kernel_rfl) (by kernel_rfl) hnp (Sg.g0 (Sx.of [] (FM.le.refl _) HS67)) (fun w_ hw_ => by obtain ⟨g_, hl_, hS_⟩ := hw_.st; exact run_div rfl (by kernel_rfl : _ = Value.int .i64 b2.Den) (by kernel_rfl : _ = Value.int .i64 vt39) c55 w_) ?_
    have hq_ := bind_some h; clear h; obtain ⟨⟨vt68, vt69⟩, hc70, h⟩ := hq_
    refine takeGE 8 (by kernel_rfl) rfl (by kernel_rfl) (does_call (f := 39) (args := #[.int .i64 (w64 (Int.tdiv a1.Den vt45)), .int .i64 (w64 (Int.tdiv b2.Den vt39))]) (by kernel_rfl) (num_Mul.calls k (w64 (Int.tdiv a1.Den vt45)) (w64 (Int.tdiv b2.Den vt39)) HS67 vt68 vt69 hc70) ?_)
    rintro _ W73 ⟨f71, rfl, L72, HS74⟩
    refine ⟨_, rfl, ?_⟩
    refine ⟨(Sg.g0 (Sx.of [] L72 HS74)), ?_⟩
    refine takeG [9, 10, 11, 12, 13] (n := 5) (fuel := 0) (l' := #[true, true, true, true, true, true, true, true, true, true, true, true, true, true]) (a' := ⟨#[.agg #[.int .i64 a1.Num, .int .i64 a1.Den], .agg #[.int .i64 b2.Num, .int .i64 b2.Den], .pointer (some ⟨b5, 0, none⟩), .pointer (some ⟨b9, 0, none⟩), .pointer (some ⟨b13, 0, none⟩), .int .i64 0, .int .i64 vt21, .int .i64 vt39, .int .i64 vt45, .int .i64 vt57, .bool vt58, .int .i64 vt68, .bool vt69, .agg #[.int .i64 a1.Num, .int .i64 a1.Den], .agg #[.int .i64 b2.Num, .int .i64 b2.Den], .int .i64 vt21, .int .i64 vt21, .bool false, undef, undef, .pointer (some ⟨b5, 0, none⟩), .int .i64 a1.Num, .pointer (some ⟨b9, 1, none⟩), .int .i64 b2.Den, .int .i64 vt39, .pointer (some ⟨b9, 0, none⟩), .int .i64 b2.Num, .pointer (some ⟨b5, 1, none⟩), .int .i64 a1.Den, .int .i64 vt45, .tuple #[.int .i64 vt57, .bool vt58], .pointer (some ⟨b5, 0, none⟩), .int .i64 a1.Num, .int .i64 vt39, .int .i64 (w64 (Int.tdiv a1.Num vt39)), .pointer (some ⟨b9, 0, none⟩), .int .i64 b2.Num, .int .i64 vt45, .int .i64 (w64 (Int.tdiv b2.Num vt45)), .tuple #[.int .i64 vt57, .bool vt58], .int .i64 vt57, .bool vt58, .tuple #[.int .i64 vt68, .bool vt69], .pointer (some ⟨b5, 1, none⟩), .int .i64 a1.Den, .int .i64 vt45, .int .i64 (w64 (Int.tdiv a1.Den vt45)), .pointer (some ⟨b9, 1, none⟩), .int .i64 b2.Den, .int .i64 vt39, .int .i64 (w64 (Int.tdiv b2.Den vt39)), .tuple #[.int .i64 vt68, .bool vt69], .int .i64 vt68, .bool vt69, undef, undef, undef, undef, undef, undef, undef, undef], []⟩) rfl (by kernel_rfl) (by kernel_rfl) (by kernel_rfl) hnp (Sg.g0 (Sx.of [] L72 HS74)) ?_
    refine doneG (by kernel_rfl) ?_ _
    refine hK65 _ _ ?_
    refine wp_seq_k (fun K75 hK76 => ?_)
    refine wp_region_lit ?_
    refine seqL4 (by kernel_rfl) ?_
    refine seqK rfl (does_lit (e := tBool) (E := 4) (vs := #[(0, Value.bool vt58), (1, Value.bool vt69)]) (cs := #[.bool vt58, .bool vt69]) (xs := ([vt58, vt69] : List Bool)) rfl Try.underlying95 (by kernel_rfl) (by kernel_rfl) ⟨[.bool vt58], _, rfl, rfl, ⟨[.bool vt69], _, rfl, rfl, rfl⟩⟩ rfl HS74 ?_ (by decide))
    intro b77 W78 s79 HS80 _ HO81
    obtain ⟨f83, L84, HS85, HR86, th87⟩ := HO81.lend HS80
    have hq_ := bind_some h; clear h; obtain ⟨⟨vt88, vt89⟩, hc90, h⟩ := hq_
    refine seqK rfl (does_call (f := 40) (args := #[.int .i64 vt57, .int .i64 vt68, .slice (some ⟨b77, 0, none⟩) ([vt58, vt69] : List Bool).length 2]) (by kernel_rfl) (frac_made.calls k (some ⟨b77, 0, none⟩) 2 vt57 vt68 ([vt58, vt69] : List Bool) HS85 HR86 vt88 vt89 hc90) ?_)
    rintro _ W93 ⟨f91, rfl, L92, HS94⟩
    refine ⟨_, rfl, ?_⟩
    obtain ⟨f95, L96, HS97⟩ := th87 L92 HS94
    have HS98 := HS97.u1
    refine seqL2 (by kernel_rfl) ?_
    refine seqK rfl (does_store (n := 2) (vs := [.int .i64 vt88.Num, .int .i64 vt88.Den]) (cs' := #[.int .i64 vt88.Num, .int .i64 vt88.Den]) rfl (by kernel_rfl) (by kernel_rfl : _ = Value.pointer (some ⟨b13, 0, none⟩)) (by kernel_rfl : _ = Value.agg #[.int .i64 vt88.Num, .int .i64 vt88.Den]) rfl rfl (by intro u_ hu_; simp only [List.mem_cons, List.not_mem_nil, or_false] at hu_; rcases hu_ with rfl | rfl <;> rfl) HS98 (Nat.le_of_ble_eq_true rfl) (by kernel_rfl) ?_)
    intro W99 HS100
    refine seqS1 (a' := ⟨#[.agg #[.int .i64 a1.Num, .int .i64 a1.Den], .agg #[.int .i64 b2.Num, .int .i64 b2.Den], .pointer (some ⟨b5, 0, none⟩), .pointer (some ⟨b9, 0, none⟩), .pointer (some ⟨b13, 0, none⟩), .int .i64 vt89, .int .i64 vt21, .int .i64 vt39, .int .i64 vt45, .int .i64 vt57, .bool vt58, .int .i64 vt68, .bool vt69, .agg #[.int .i64 a1.Num, .int .i64 a1.Den], .agg #[.int .i64 b2.Num, .int .i64 b2.Den], .int .i64 vt21, .int .i64 vt21, .bool false, undef, undef, .pointer (some ⟨b5, 0, none⟩), .int .i64 a1.Num, .pointer (some ⟨b9, 1, none⟩), .int .i64 b2.Den, .int .i64 vt39, .pointer (some ⟨b9, 0, none⟩), .int .i64 b2.Num, .pointer (some ⟨b5, 1, none⟩), .int .i64 a1.Den, .int .i64 vt45, .tuple #[.int .i64 vt57, .bool vt58], .pointer (some ⟨b5, 0, none⟩), .int .i64 a1.Num, .int .i64 vt39, .int .i64 (w64 (Int.tdiv a1.Num vt39)), .pointer (some ⟨b9, 0, none⟩), .int .i64 b2.Num, .int .i64 vt45, .int .i64 (w64 (Int.tdiv b2.Num vt45)), .tuple #[.int .i64 vt57, .bool vt58], .int .i64 vt57, .bool vt58, .tuple #[.int .i64 vt68, .bool vt69], .pointer (some ⟨b5, 1, none⟩), .int .i64 a1.Den, .int .i64 vt45, .int .i64 (w64 (Int.tdiv a1.Den vt45)), .pointer (some ⟨b9, 1, none⟩), .int .i64 b2.Den, .int .i64 vt39, .int .i64 (w64 (Int.tdiv b2.Den vt39)), .tuple #[.int .i64 vt68, .bool vt69], .int .i64 vt68, .bool vt69, .int .i64 vt57, .int .i64 vt68, .bool vt58, .bool vt69, .slice (some ⟨b77, 0, none⟩) ([vt58, vt69] : List Bool).length 2, .tuple #[.agg #[.int .i64 vt88.Num, .int .i64 vt88.Den], .int .i64 vt89], .agg #[.int .i64 vt88.Num, .int .i64 vt88.Den], .int .i64 vt89], []⟩) (by kernel_rfl) ?_
    refine wpList_nil ?_
    refine hK76 _ _ ?_
    refine wp_ret ?_
    refine hret _ _ ?_
    refine ends (v := Value.tuple #[.agg #[.int .i64 vt88.Num, .int .i64 vt88.Den], .int .i64 vt89]) (results2 (q1 := .cell 4 41) (q2 := .tmp 5) (by kernel_rfl) (resN (n := 2) (cs := [.int .i64 vt88.Num, .int .i64 vt88.Den]) (by kernel_rfl : _ = Value.pointer (some ⟨b13, 0, none⟩)) Try.underlying41 rfl (by kernel_rfl) rfl (HS100.cells 0 2 _ rfl)) (resT (by kernel_rfl : _ = Value.int .i64 vt89))) (by kernel_rfl) ?_
    have HS104 := HS100.drop
    have HS105 := HS104.drop
    have HS106 := HS105.drop
    have HS107 := HS106.drop
    injection h with h
    injection h with h0_ h
    subst h0_ h
    exact ⟨f95, rfl, (L24.trans (L42.trans (L48.trans (L61.trans (L72.trans L96))))), HS107⟩

set_option maxRecDepth 100000 in
set_option maxHeartbeats 4000000 in
theorem optics_Centre_1.calls (k : Nat) (b1 : Nat) (b3 : Nat) (v5 : Int) (v6 : Int) (n7 : Int) {t w : World} {f : FM} {H : List Seg} (HS : St t w f ([(b1, .cells #[.int .i64 v5] 2 (0, 0))] :: [(b3, .cells #[.int .i64 v6] 24 (0, 0))] :: H)) (r1 : S_Frac) (r2 : Int) (h : optics_Centre_1 k v5 v6 n7 = some (r1, r2)) :
    Calls Try.prog 27 #[.int .i64 n7, .pointer (some ⟨b1, 0, none⟩), .pointer (some ⟨b3, 0, none⟩)] w (fun e w' => ∃ (g : FM), e = .returned (Value.agg #[.int .i64 r1.Num, .int .i64 r1.Den]) ∧ FM.le f g ∧ St t w' g ([(b1, .cells #[.int .i64 v5] 2 (0, 0))] :: [(b3, .cells #[.int .i64 r2] 24 (0, 0))] :: H)) := by
  unfold optics_Centre_1 at h
  refine enter Try.func27 rfl (tm := #[.int .i64 n7, .pointer (some ⟨b1, 0, none⟩), .pointer (some ⟨b3, 0, none⟩), undef, undef, undef, undef, undef, undef, undef, undef, undef, undef, undef, undef, undef, undef, undef, undef, undef, undef, undef, undef, undef, undef, undef]) (by kernel_rfl) ?_
  intro B hret hnor hnp
  refine wp_seq_k (fun K8 hK9 => ?_)
  refine wp_region_lit ?_
  refine seqK rfl (does_alloc (z := Value.agg #[.int .i64 0, .int .i64 0]) (cs := #[.int .i64 0, .int .i64 0]) rfl (by kernel_rfl) rfl HS ?_)
  intro b10 W11 HS12
  refine wpList_nil ?_
  refine hK9 _ _ ?_
  refine wp_seq_k (fun K14 hK15 => ?_)
  refine wp_region_lit ?_
  refine seqL1 (by kernel_rfl) ?_
  refine seqK rfl (does_run (run_load rfl Try.underlying2 rfl (by kernel_rfl : _ = Value.pointer (some ⟨b1, 0, none⟩)) (HS12.u1.cell 0)) ?_)
  have hq_ := bind_some h; clear h; obtain ⟨⟨vt16, vt17⟩, hc18, h⟩ := hq_
  refine seqK rfl (does_call (f := 28) (args := #[.int .i64 n7, .int .i64 v5]) (by kernel_rfl) (frac_Make.calls k n7 v5 HS12 vt16 vt17 hc18) ?_)
  rintro _ W21 ⟨f19, rfl, L20, HS22⟩
  refine ⟨_, rfl, ?_⟩
  refine seqL3 (by kernel_rfl) ?_
  refine seqK rfl (does_alloc (z := Value.agg #[.int .i64 0, .int .i64 0]) (cs := #[.int .i64 0, .int .i64 0]) rfl (by kernel_rfl) rfl HS22 ?_)
  intro b23 W24 HS25
  refine seqK rfl (does_store (n := 2) (vs := [.int .i64 vt16.Num, .int .i64 vt16.Den]) (cs' := #[.int .i64 vt16.Num, .int .i64 vt16.Den]) rfl (by kernel_rfl) (by kernel_rfl : _ = Value.pointer (some ⟨b23, 0, none⟩)) (by kernel_rfl : _ = Value.agg #[.int .i64 vt16.Num, .int .i64 vt16.Den]) rfl rfl (by intro u_ hu_; simp only [List.mem_cons, List.not_mem_nil, or_false] at hu_; rcases hu_ with rfl | rfl <;> rfl) HS25 (Nat.le_of_ble_eq_true rfl) (by kernel_rfl) ?_)
  intro W27 HS28
  refine seqS1 (a' := ⟨#[.int .i64 n7, .pointer (some ⟨b1, 0, none⟩), .pointer (some ⟨b3, 0, none⟩), undef, .pointer (some ⟨b10, 0, none⟩), .pointer (some ⟨b23, 0, none⟩), .int .i64 vt17, undef, .tuple #[.agg #[.int .i64 vt16.Num, .int .i64 vt16.Den], .int .i64 vt17], .int .i64 n7, .int .i64 v5, .tuple #[.agg #[.int .i64 vt16.Num, .int .i64 vt16.Den], .int .i64 vt17], .agg #[.int .i64 vt16.Num, .int .i64 vt16.Den], .int .i64 vt17, undef, undef, undef, undef, undef, undef, undef, undef, undef, undef, undef, undef], []⟩) (by kernel_rfl) ?_
  refine wpList_nil ?_
  refine hK15 _ _ ?_
  refine wp_seq_k (fun K29 hK30 => ?_)
  refine wp_region_lit ?_
  refine seqK rfl (does_run (run_loadN (n := 2) rfl Try.underlying41 rfl (by kernel_rfl) (by kernel_rfl : _ = Value.pointer (some ⟨b23, 0, none⟩)) (cs := [.int .i64 vt16.Num, .int .i64 vt16.Den]) rfl (HS28.cells 0 2 _ rfl)) ?_)
  have hq_ := bind_some h; clear h; obtain ⟨⟨vt31, vt32⟩, hc33, h⟩ := hq_
  refine seqL1 (by kernel_rfl) ?_
  refine seqK rfl (does_call (f := 29) (args := #[.agg #[.int .i64 vt16.Num, .int .i64 vt16.Den], .agg #[.int .i64 128, .int .i64 1]]) (by kernel_rfl) (frac_Mul.calls k vt16 (⟨128, 1⟩ : S_Frac) HS28 vt31 vt32 hc33) ?_)
  rintro _ W36 ⟨f34, rfl, L35, HS37⟩
  refine ⟨_, rfl, ?_⟩
  refine seqL3 (by kernel_rfl) ?_
  refine seqK rfl (does_store (n := 2) (vs := [.int .i64 vt31.Num, .int .i64 vt31.Den]) (cs' := #[.int .i64 vt31.Num, .int .i64 vt31.Den]) rfl (by kernel_rfl) (by kernel_rfl : _ = Value.pointer (some ⟨b23, 0, none⟩)) (by kernel_rfl : _ = Value.agg #[.int .i64 vt31.Num, .int .i64 vt31.Den]) rfl rfl (by intro u_ hu_; simp only [List.mem_cons, List.not_mem_nil, or_false] at hu_; rcases hu_ with rfl | rfl <;> rfl) HS37 (Nat.le_of_ble_eq_true rfl) (by kernel_rfl) ?_)
  intro W38 HS39
  refine seqS1 (a' := ⟨#[.int .i64 n7, .pointer (some ⟨b1, 0, none⟩), .pointer (some ⟨b3, 0, none⟩), undef, .pointer (some ⟨b10, 0, none⟩), .pointer (some ⟨b23, 0, none⟩), .int .i64 vt17, .int .i64 vt32, .tuple #[.agg #[.int .i64 vt16.Num, .int .i64 vt16.Den], .int .i64 vt17], .int .i64 n7, .int .i64 v5, .tuple #[.agg #[.int .i64 vt16.Num, .int .i64 vt16.Den], .int .i64 vt17], .agg #[.int .i64 vt16.Num, .int .i64 vt16.Den], .int .i64 vt17, .tuple #[.agg #[.int .i64 vt31.Num, .int .i64 vt31.Den], .int .i64 vt32], .agg #[.int .i64 vt16.Num, .int .i64 vt16.Den], .agg #[.int .i64 128, .int .i64 1], .tuple #[.agg #[.int .i64 vt31.Num, .int .i64 vt31.Den], .int .i64 vt32], .agg #[.int .i64 vt31.Num, .int .i64 vt31.Den], .int .i64 vt32, undef, undef, undef, undef, undef, undef], []⟩) (by kernel_rfl) ?_
  refine wpList_nil ?_
  refine hK30 _ _ ?_
  refine wp_seq_k (fun K40 hK41 => ?_)
  refine wp_region_lit ?_
  refine seqK rfl (does_run (run_load rfl Try.underlying24 rfl (by kernel_rfl : _ = Value.pointer (some ⟨b3, 0, none⟩)) (HS39.u3.cell 0)) ?_)
  refine seqL2 (by kernel_rfl) ?_
  refine seqK rfl (does_lit (e := (tInt .i64)) (E := 24) (vs := #[(0, Value.int .i64 v6), (1, Value.int .i64 vt17), (2, Value.int .i64 vt32)]) (cs := #[.int .i64 v6, .int .i64 vt17, .int .i64 vt32]) (xs := ([v6, vt17, vt32] : List Int)) rfl Try.underlying73 (by kernel_rfl) (by kernel_rfl) ⟨[.int .i64 v6], _, rfl, rfl, ⟨[.int .i64 vt17], _, rfl, rfl, ⟨[.int .i64 vt32], _, rfl, rfl, rfl⟩⟩⟩ rfl HS39 ?_ (by decide))
  intro b42 W43 s44 HS45 _ HO46
  obtain ⟨f48, L49, HS50, HR51, th52⟩ := HO46.lend HS45
  have hq_ := bind_some h; clear h; obtain ⟨vt53, hc54, h⟩ := hq_
  refine seqK rfl (does_call (f := 26) (args := #[.slice (some ⟨b42, 0, none⟩) ([v6, vt17, vt32] : List Int).length 3]) (by kernel_rfl) (cmp_Or_Errno.calls k (some ⟨b42, 0, none⟩) 3 ([v6, vt17, vt32] : List Int) HS50 HR51 vt53 hc54) ?_)
  rintro _ W57 ⟨f55, rfl, L56, HS58⟩
  refine ⟨_, rfl, ?_⟩
  obtain ⟨f59, L60, HS61⟩ := th52 L56 HS58
  have HS62 := HS61.u4
  refine seqK rfl (does_store (n := 1) (vs := [.int .i64 vt53]) (cs' := #[.int .i64 vt53]) rfl (by kernel_rfl) (by kernel_rfl : _ = Value.pointer (some ⟨b3, 0, none⟩)) (by kernel_rfl : _ = Value.int .i64 vt53) rfl rfl (by intro u_ hu_; simp only [List.mem_cons, List.not_mem_nil, or_false] at hu_; subst hu_; rfl) HS62 (Nat.le_of_ble_eq_true rfl) (by kernel_rfl) ?_)
  intro W63 HS64
  refine wpList_nil ?_
  refine hK41 _ _ ?_
  refine wp_seq_k (fun K65 hK66 => ?_)
  refine wp_region_lit ?_
  refine seqK rfl (does_run (run_loadN (n := 2) rfl Try.underlying41 rfl (by kernel_rfl) (by kernel_rfl : _ = Value.pointer (some ⟨b23, 0, none⟩)) (cs := [.int .i64 vt31.Num, .int .i64 vt31.Den]) rfl (HS64.u2.cells 0 2 _ rfl)) ?_)
  have HS67 := HS64.u3
  refine seqK rfl (does_store (n := 2) (vs := [.int .i64 vt31.Num, .int .i64 vt31.Den]) (cs' := #[.int .i64 vt31.Num, .int .i64 vt31.Den]) rfl (by kernel_rfl) (by kernel_rfl : _ = Value.pointer (some ⟨b10, 0, none⟩)) (by kernel_rfl : _ = Value.agg #[.int .i64 vt31.Num, .int .i64 vt31.Den]) rfl rfl (by intro u_ hu_; simp only [List.mem_cons, List.not_mem_nil, or_false] at hu_; rcases hu_ with rfl | rfl <;> rfl) HS67 (Nat.le_of_ble_eq_true rfl) (by kernel_rfl) ?_)
  intro W68 HS69
  refine wpList_nil ?_
  refine hK66 _ _ ?_
  refine wp_ret ?_
  refine hret _ _ ?_
  refine ends (v := Value.agg #[.int .i64 vt31.Num, .int .i64 vt31.Den]) (results1 (q1 := .cell 4 41) (by kernel_rfl) (resN (n := 2) (cs := [.int .i64 vt31.Num, .int .i64 vt31.Den]) (by kernel_rfl : _ = Value.pointer (some ⟨b10, 0, none⟩)) Try.underlying41 rfl (by kernel_rfl) rfl (HS69.cells 0 2 _ rfl))) (by kernel_rfl) ?_
  have HS70 := HS69.u1
  have HS71 := HS70.u4
  have HS72 := HS71.u4
  have HS73 := HS72.u4
  have HS74 := HS73.u4
  have HS75 := HS74.drop
  have HS76 := HS75.drop
  have HS77 := HS76.drop
  injection h with h
  injection h with h0_ h
  subst h0_ h
  exact ⟨f59, rfl, (L20.trans (L35.trans L60)), HS77⟩

set_option maxRecDepth 100000 in
set_option maxHeartbeats 4000000 in
theorem optics_Centre.calls (k : Nat) (A2 : Option Addr) (c3 : Nat) (l1 : List S_Spot) {t w : World} {f : FM} {H : List Seg} (HS : St t w f (H)) (HR4 : SlR ty_Spot f A2 c3 l1) (r1 : S_Frac) (r2 : S_Frac) (r3 : Int) (h : optics_Centre k l1 = some (r1, r2, r3)) :
    Calls Try.prog 12 #[.slice A2 l1.length c3] w (fun e w' => ∃ (g : FM), e = .returned (Value.tuple #[.agg #[.int .i64 r1.Num, .int .i64 r1.Den], .agg #[.int .i64 r2.Num, .int .i64 r2.Den], .int .i64 r3]) ∧ FM.le f g ∧ St t w' g (H)) := by
  unfold optics_Centre at h
  refine enter Try.func12 rfl (tm := #[.slice A2 l1.length c3, undef, undef, undef, undef, undef, undef, undef, undef, undef, undef, undef, undef, undef, undef, undef, undef, undef, undef, undef, undef, undef, undef, undef, undef, undef, undef, undef, undef, undef, undef, undef, undef, undef, undef, undef, undef, undef, undef, undef, undef, undef, undef, undef, undef, undef, undef, undef, undef, undef, undef, undef, undef, undef, undef, undef, undef, undef, undef, undef, undef, undef, undef, undef, undef, undef, undef, undef, undef, undef, undef, undef, undef, undef, undef, undef, undef, undef, undef, undef, undef, undef, undef, undef, undef, undef, undef, undef]) (by kernel_rfl) ?_
  intro B hret hnor hnp
  refine wp_seq_k (fun K5 hK6 => ?_)
  refine wp_region_lit ?_
  refine seqK rfl (does_alloc (z := Value.agg #[.int .i64 0, .int .i64 0]) (cs := #[.int .i64 0, .int .i64 0]) rfl (by kernel_rfl) rfl HS ?_)
  intro b7 W8 HS9
  refine seqK rfl (does_alloc (z := Value.agg #[.int .i64 0, .int .i64 0]) (cs := #[.int .i64 0, .int .i64 0]) rfl (by kernel_rfl) rfl HS9 ?_)
  intro b11 W12 HS13
  refine seqK rfl (does_alloc (z := Value.int .i64 0) (cs := #[.int .i64 0]) rfl (by kernel_rfl) rfl HS13 ?_)
  intro b15 W16 HS17
  refine wpList_nil ?_
  refine hK6 _ _ ?_
  refine wp_seq_k (fun K19 hK20 => ?_)
  refine wp_region_lit ?_
  refine seqK rfl (does_alloc (z := Value.int .i64 0) (cs := #[.int .i64 0]) rfl (by kernel_rfl) rfl HS17 ?_)
  intro b21 W22 HS23
  refine seqS2 (a' := ⟨#[.slice A2 l1.length c3, undef, .pointer (some ⟨b7, 0, none⟩), .pointer (some ⟨b11, 0, none⟩), .pointer (some ⟨b15, 0, none⟩), .pointer (some ⟨b21, 0, none⟩), .int .i64 0, .int .i64 0, undef, undef, undef, undef, undef, undef, undef, undef, undef, undef, undef, undef, undef, undef, undef, undef, undef, undef, undef, undef, undef, undef, undef, undef, undef, undef, undef, undef, undef, undef, undef, undef, undef, undef, undef, undef, undef, undef, undef, undef, undef, undef, undef, undef, undef, undef, undef, undef, undef, undef, undef, undef, undef, undef, undef, undef, undef, undef, undef, undef, undef, undef, undef, undef, undef, undef, undef, undef, undef, undef, undef, undef, undef, undef, undef, undef, undef, undef, undef, undef], []⟩) (by kernel_rfl) ?_
  refine wpList_nil ?_
  refine hK20 _ _ ?_
  refine wp_seq_k (fun K25 hK26 => ?_)
  refine wp_seq_k (fun K27 hK28 => ?_)
  refine wp_region_lit ?_
  refine seqS3 (a' := ⟨#[.slice A2 l1.length c3, undef, .pointer (some ⟨b7, 0, none⟩), .pointer (some ⟨b11, 0, none⟩), .pointer (some ⟨b15, 0, none⟩), .pointer (some ⟨b21, 0, none⟩), .int .i64 0, .int .i64 0, undef, undef, undef, .slice A2 l1.length c3, .int .i64 (l1.length : Int), .int .i64 0, undef, undef, undef, undef, undef, undef, undef, undef, undef, undef, undef, undef, undef, undef, undef, undef, undef, undef, undef, undef, undef, undef, undef, undef, undef, undef, undef, undef, undef, undef, undef, undef, undef, undef, undef, undef, undef, undef, undef, undef, undef, undef, undef, undef, undef, undef, undef, undef, undef, undef, undef, undef, undef, undef, undef, undef, undef, undef, undef, undef, undef, undef, undef, undef, undef, undef, undef, undef, undef, undef, undef, undef, undef, undef], []⟩) (by kernel_rfl) ?_
  refine wpList_nil ?_
  refine hK28 _ _ ?_
  refine blockK (fun B29 hx30 hn31 hr32 ho33 hp34 => ?_)
  have hq_ := bind_some h; clear h; obtain ⟨o146, hv266, h⟩ := hq_
  have JR268 : ∀ z_, some (Sum.inl z_) = some o146 → some z_ = some (r1, r2, r3) := by
    intro z_ e_; injection e_ with e_; subst e_; exact h
  have J267 : ∀ (f258 : FM) (sx263 : Int) (sy264 : Int) (x265 : Int) (j262 : Nat → Value) (W260 : World) (a_ : Act), FM.le f f258 → some (Sum.inr (sx263, sy264, x265)) = some o146 → St t W260 f258 ([(b21, .cells #[.int .i64 x265] 2 (0, 0))] :: [(b15, .cells #[.int .i64 0] 24 (0, 0))] :: [(b11, .cells #[.int .i64 0, .int .i64 0] 41 (0, 0))] :: [(b7, .cells #[.int .i64 0, .int .i64 0] 41 (0, 0))] :: H) → a_ = ⟨#[.slice A2 l1.length c3, undef, .pointer (some ⟨b7, 0, none⟩), .pointer (some ⟨b11, 0, none⟩), .pointer (some ⟨b15, 0, none⟩), .pointer (some ⟨b21, 0, none⟩), .int .i64 sx263, .int .i64 sy264, undef, (j262 0), undef, .slice A2 l1.length c3, .int .i64 (l1.length : Int), (j262 1), (j262 2), (j262 3), (j262 4), (j262 5), (j262 6), (j262 7), (j262 8), (j262 9), (j262 10), (j262 11), (j262 12), (j262 13), (j262 14), (j262 15), (j262 16), (j262 17), (j262 18), (j262 19), (j262 20), (j262 21), (j262 22), (j262 23), (j262 24), (j262 25), (j262 26), (j262 27), (j262 28), (j262 29), (j262 30), (j262 31), (j262 32), (j262 33), (j262 34), (j262 35), (j262 36), (j262 37), (j262 38), (j262 39), (j262 40), (j262 41), (j262 42), (j262 43), (j262 44), (j262 45), (j262 46), (j262 47), (j262 48), (j262 49), (j262 50), (j262 51), (j262 52), (j262 53), (j262 54), (j262 55), (j262 56), (j262 57), undef, undef, undef, undef, undef, undef, undef, undef, undef, undef, undef, undef, undef, undef, undef, undef, undef, undef], []⟩ → K25 a_ W260 := by
    intro f258 sx263 sy264 x265 j262 W260 a_ L259 hj269 HS261  hfr_; subst hfr_
    injection hj269 with hj269; subst hj269; try dsimp only at h
    simp only [Sum.elim_inr] at h
    refine hK26 _ _ ?_
    refine wp_seq_k (fun K276 hK277 => ?_)
    refine wp_seq_k (fun K278 hK279 => ?_)
    refine wp_region_lit ?_
    refine seqK rfl (does_run (run_load rfl Try.underlying2 rfl (by kernel_rfl : _ = Value.pointer (some ⟨b21, 0, none⟩)) (HS261.cell 0)) ?_)
    refine seqS1 (a' := ⟨#[.slice A2 l1.length c3, undef, .pointer (some ⟨b7, 0, none⟩), .pointer (some ⟨b11, 0, none⟩), .pointer (some ⟨b15, 0, none⟩), .pointer (some ⟨b21, 0, none⟩), .int .i64 sx263, .int .i64 sy264, undef, (j262 0), undef, .slice A2 l1.length c3, .int .i64 (l1.length : Int), (j262 1), (j262 2), (j262 3), (j262 4), (j262 5), (j262 6), (j262 7), (j262 8), (j262 9), (j262 10), (j262 11), (j262 12), (j262 13), (j262 14), (j262 15), (j262 16), (j262 17), (j262 18), (j262 19), (j262 20), (j262 21), (j262 22), (j262 23), (j262 24), (j262 25), (j262 26), (j262 27), (j262 28), (j262 29), (j262 30), (j262 31), (j262 32), (j262 33), (j262 34), (j262 35), (j262 36), (j262 37), (j262 38), (j262 39), (j262 40), (j262 41), (j262 42), (j262 43), (j262 44), (j262 45), (j262 46), (j262 47), (j262 48), (j262 49), (j262 50), (j262 51), (j262 52), (j262 53), (j262 54), (j262 55), (j262 56), (j262 57), .int .i64 x265, .bool (x265 == 0), undef, undef, undef, undef, undef, undef, undef, undef, undef, undef, undef, undef, undef, undef, undef, undef], []⟩) (by kernel_rfl) ?_
    refine wpList_nil ?_
    refine hK279 _ _ ?_
    have hq_ := ite_some h; clear h; rcases hq_ with ⟨c281, h⟩ | ⟨c281, h⟩
    · have c281 : x265 = 0 := c281
      refine wpRwI 71 (x := (x265 == 0)) (v := true) (by kernel_rfl) (beq_iff_eq.mpr c281) ?_
      refine condT (by kernel_rfl) ?_
      refine wp_seq_k (fun K282 hK283 => ?_)
      refine wp_region_lit ?_
      have HS284 := HS261.u3
      refine seqL2 (by kernel_rfl) ?_
      refine seqK rfl (does_store (n := 2) (vs := [.int .i64 0, .int .i64 0]) (cs' := #[.int .i64 0, .int .i64 0]) rfl (by kernel_rfl) (by kernel_rfl : _ = Value.pointer (some ⟨b7, 0, none⟩)) (by kernel_rfl : _ = Value.agg #[.int .i64 0, .int .i64 0]) rfl rfl (by intro u_ hu_; simp only [List.mem_cons, List.not_mem_nil, or_false] at hu_; rcases hu_ with rfl | rfl <;> rfl) HS284 (Nat.le_of_ble_eq_true rfl) (by kernel_rfl) ?_)
      intro W285 HS286
      have HS287 := HS286.u3
      refine seqK rfl (does_store (n := 2) (vs := [.int .i64 0, .int .i64 0]) (cs' := #[.int .i64 0, .int .i64 0]) rfl (by kernel_rfl) (by kernel_rfl : _ = Value.pointer (some ⟨b11, 0, none⟩)) (by kernel_rfl : _ = Value.agg #[.int .i64 0, .int .i64 0]) rfl rfl (by intro u_ hu_; simp only [List.mem_cons, List.not_mem_nil, or_false] at hu_; rcases hu_ with rfl | rfl <;> rfl) HS287 (Nat.le_of_ble_eq_true rfl) (by kernel_rfl) ?_)
      intro W288 HS289
      have HS290 := HS289.u3
      refine seqK rfl (does_store (n := 1) (vs := [.int .i64 8]) (cs' := #[.int .i64 8]) rfl (by kernel_rfl) (by kernel_rfl : _ = Value.pointer (some ⟨b15, 0, none⟩)) (by kernel_rfl : _ = Value.int .i64 8) rfl rfl (by intro u_ hu_; simp only [List.mem_cons, List.not_mem_nil, or_false] at hu_; subst hu_; rfl) HS290 (Nat.le_of_ble_eq_true rfl) (by kernel_rfl) ?_)
      intro W291 HS292
      refine wpList_nil ?_
      refine hK283 _ _ ?_
      refine wp_ret ?_
      refine hret _ _ ?_
      refine ends (v := Value.tuple #[.agg #[.int .i64 0, .int .i64 0], .agg #[.int .i64 0, .int .i64 0], .int .i64 8]) (results3 (q1 := .cell 2 41) (q2 := .cell 3 41) (q3 := .cell 4 24) (by kernel_rfl) (resN (n := 2) (cs := [.int .i64 0, .int .i64 0]) (by kernel_rfl : _ = Value.pointer (some ⟨b7, 0, none⟩)) Try.underlying41 rfl (by kernel_rfl) rfl (HS292.u2.cells 0 2 _ rfl)) (resN (n := 2) (cs := [.int .i64 0, .int .i64 0]) (by kernel_rfl : _ = Value.pointer (some ⟨b11, 0, none⟩)) Try.underlying41 rfl (by kernel_rfl) rfl (HS292.u1.cells 0 2 _ rfl)) (resC (by kernel_rfl : _ = Value.pointer (some ⟨b15, 0, none⟩)) Try.underlying24 rfl (HS292.cell 0))) (by kernel_rfl) ?_
      have HS381 := HS292.drop
      have HS382 := HS381.drop
      have HS383 := HS382.drop
      have HS384 := HS383.drop
      injection h with h
      injection h with h0_ h
      injection h with h1_ h
      subst h0_ h1_ h
      exact ⟨f258, rfl, L259, HS384⟩
    · have c281 : ¬ (x265 = 0) := c281
      refine wpRwI 71 (x := (x265 == 0)) (v := false) (by kernel_rfl) (beq_eq_false_iff_ne.mpr c281) ?_
      refine condF (by kernel_rfl) ?_
      refine wp_skip ?_
      refine hK277 _ _ ?_
      refine wp_seq_k (fun K293 hK294 => ?_)
      refine wp_region_lit ?_
      refine seqS2 (a' := ⟨#[.slice A2 l1.length c3, undef, .pointer (some ⟨b7, 0, none⟩), .pointer (some ⟨b11, 0, none⟩), .pointer (some ⟨b15, 0, none⟩), .pointer (some ⟨b21, 0, none⟩), .int .i64 sx263, .int .i64 sy264, undef, (j262 0), .func (.func 27) #[] #[.pointer (some ⟨b21, 0, none⟩), .pointer (some ⟨b15, 0, none⟩)], .slice A2 l1.length c3, .int .i64 (l1.length : Int), (j262 1), (j262 2), (j262 3), (j262 4), (j262 5), (j262 6), (j262 7), (j262 8), (j262 9), (j262 10), (j262 11), (j262 12), (j262 13), (j262 14), (j262 15), (j262 16), (j262 17), (j262 18), (j262 19), (j262 20), (j262 21), (j262 22), (j262 23), (j262 24), (j262 25), (j262 26), (j262 27), (j262 28), (j262 29), (j262 30), (j262 31), (j262 32), (j262 33), (j262 34), (j262 35), (j262 36), (j262 37), (j262 38), (j262 39), (j262 40), (j262 41), (j262 42), (j262 43), (j262 44), (j262 45), (j262 46), (j262 47), (j262 48), (j262 49), (j262 50), (j262 51), (j262 52), (j262 53), (j262 54), (j262 55), (j262 56), (j262 57), .int .i64 x265, .bool false, undef, undef, .func (.func 27) #[] #[.pointer (some ⟨b21, 0, none⟩), .pointer (some ⟨b15, 0, none⟩)], undef, undef, undef, undef, undef, undef, undef, undef, undef, undef, undef, undef, undef], []⟩) (by kernel_rfl) ?_
      refine wpList_nil ?_
      refine hK294 _ _ ?_
      refine wp_seq_k (fun K295 hK296 => ?_)
      refine wp_seq_k (fun K297 hK298 => ?_)
      refine wp_region_lit ?_
      have HS299 := HS261.u1
      have HS300 := HS299.u1
      have hq_ := bind_some h; clear h; obtain ⟨⟨vt301, vt302⟩, hc303, h⟩ := hq_
      refine seqL2 (by kernel_rfl) ?_
      refine seqK rfl (does_call (f := 27) (args := #[.int .i64 sx263, .pointer (some ⟨b21, 0, none⟩), .pointer (some ⟨b15, 0, none⟩)]) (by kernel_rfl) (optics_Centre_1.calls k b21 b15 x265 0 sx263 HS300 vt301 vt302 hc303) ?_)
      rintro _ W306 ⟨f304, rfl, L305, HS307⟩
      refine ⟨_, rfl, ?_⟩
      have HS308 := HS307.u1
      have HS309 := HS308.u1
      have hq_ := bind_some h; clear h; obtain ⟨⟨vt310, vt311⟩, hc312, h⟩ := hq_
      refine seqL2 (by kernel_rfl) ?_
      refine seqK rfl (does_call (f := 27) (args := #[.int .i64 sy264, .pointer (some ⟨b21, 0, none⟩), .pointer (some ⟨b15, 0, none⟩)]) (by kernel_rfl) (optics_Centre_1.calls k b21 b15 x265 vt302 sy264 HS309 vt310 vt311 hc312) ?_)
      rintro _ W315 ⟨f313, rfl, L314, HS316⟩
      refine ⟨_, rfl, ?_⟩
      have HS317 := HS316.u3
      refine seqK rfl (does_store (n := 2) (vs := [.int .i64 vt301.Num, .int .i64 vt301.Den]) (cs' := #[.int .i64 vt301.Num, .int .i64 vt301.Den]) rfl (by kernel_rfl) (by kernel_rfl : _ = Value.pointer (some ⟨b7, 0, none⟩)) (by kernel_rfl : _ = Value.agg #[.int .i64 vt301.Num, .int .i64 vt301.Den]) rfl rfl (by intro u_ hu_; simp only [List.mem_cons, List.not_mem_nil, or_false] at hu_; rcases hu_ with rfl | rfl <;> rfl) HS317 (Nat.le_of_ble_eq_true rfl) (by kernel_rfl) ?_)
      intro W318 HS319
      have HS320 := HS319.u3
      refine seqK rfl (does_store (n := 2) (vs := [.int .i64 vt310.Num, .int .i64 vt310.Den]) (cs' := #[.int .i64 vt310.Num, .int .i64 vt310.Den]) rfl (by kernel_rfl) (by kernel_rfl : _ = Value.pointer (some ⟨b11, 0, none⟩)) (by kernel_rfl : _ = Value.agg #[.int .i64 vt310.Num, .int .i64 vt310.Den]) rfl rfl (by intro u_ hu_; simp only [List.mem_cons, List.not_mem_nil, or_false] at hu_; rcases hu_ with rfl | rfl <;> rfl) HS320 (Nat.le_of_ble_eq_true rfl) (by kernel_rfl) ?_)
      intro W321 HS322
      refine wpList_nil ?_
      refine hK298 _ _ ?_
      refine wp_seq_k (fun K323 hK324 => ?_)
      refine wp_region_lit ?_
      refine seqK rfl (does_run (run_load rfl Try.underlying24 rfl (by kernel_rfl : _ = Value.pointer (some ⟨b15, 0, none⟩)) (HS322.u3.cell 0)) ?_)
      refine seqS1 (a' := ⟨#[.slice A2 l1.length c3, undef, .pointer (some ⟨b7, 0, none⟩), .pointer (some ⟨b11, 0, none⟩), .pointer (some ⟨b15, 0, none⟩), .pointer (some ⟨b21, 0, none⟩), .int .i64 sx263, .int .i64 sy264, undef, (j262 0), .func (.func 27) #[] #[.pointer (some ⟨b21, 0, none⟩), .pointer (some ⟨b15, 0, none⟩)], .slice A2 l1.length c3, .int .i64 (l1.length : Int), (j262 1), (j262 2), (j262 3), (j262 4), (j262 5), (j262 6), (j262 7), (j262 8), (j262 9), (j262 10), (j262 11), (j262 12), (j262 13), (j262 14), (j262 15), (j262 16), (j262 17), (j262 18), (j262 19), (j262 20), (j262 21), (j262 22), (j262 23), (j262 24), (j262 25), (j262 26), (j262 27), (j262 28), (j262 29), (j262 30), (j262 31), (j262 32), (j262 33), (j262 34), (j262 35), (j262 36), (j262 37), (j262 38), (j262 39), (j262 40), (j262 41), (j262 42), (j262 43), (j262 44), (j262 45), (j262 46), (j262 47), (j262 48), (j262 49), (j262 50), (j262 51), (j262 52), (j262 53), (j262 54), (j262 55), (j262 56), (j262 57), .int .i64 x265, .bool false, undef, undef, .func (.func 27) #[] #[.pointer (some ⟨b21, 0, none⟩), .pointer (some ⟨b15, 0, none⟩)], .func (.func 27) #[] #[.pointer (some ⟨b21, 0, none⟩), .pointer (some ⟨b15, 0, none⟩)], .int .i64 sx263, .agg #[.int .i64 vt301.Num, .int .i64 vt301.Den], .func (.func 27) #[] #[.pointer (some ⟨b21, 0, none⟩), .pointer (some ⟨b15, 0, none⟩)], .int .i64 sy264, .agg #[.int .i64 vt310.Num, .int .i64 vt310.Den], .int .i64 vt311, .bool (vt311 != 0), undef, undef, undef, undef, undef], []⟩) (by kernel_rfl) ?_
      refine wpList_nil ?_
      refine hK324 _ _ ?_
      have hq_ := ite_some h; clear h; rcases hq_ with ⟨c326, h⟩ | ⟨c326, h⟩
      · have c326 : vt311 ≠ 0 := c326
        refine wpRwI 82 (x := (vt311 != 0)) (v := true) (by kernel_rfl) (bne_iff_ne.mpr c326) ?_
        refine condT (by kernel_rfl) ?_
        refine wp_seq_k (fun K327 hK328 => ?_)
        have HS329 := HS322.u2
        have HS330 := HS329.u3
        have HS331 := HS330.u3
        have HS332 := HS331.u3
        refine heldG (S := Sg t f313 ([(b21, .cells #[.int .i64 x265] 2 (0, 0))] :: H) [(4, [(b11, .cells #[.int .i64 vt310.Num, .int .i64 vt310.Den] 41 (0, 0))]), (3, [(b7, .cells #[.int .i64 vt301.Num, .int .i64 vt301.Den] 41 (0, 0))]), (5, [(b15, .cells #[.int .i64 vt311] 24 (0, 0))])]) (n := 6) (by kernel_rfl) rfl HS332 ?_
        intro W333 HS334
        refine takeG [0, 1] (n := 6) (fuel := 4) (l' := #[true, true, false, false, false, false]) (a' := ⟨#[.slice A2 l1.length c3, undef, .pointer (some ⟨b7, 0, none⟩), .pointer (some ⟨b11, 0, none⟩), .pointer (some ⟨b15, 0, none⟩), .pointer (some ⟨b21, 0, none⟩), .int .i64 sx263, .int .i64 sy264, undef, (j262 0), .func (.func 27) #[] #[.pointer (some ⟨b21, 0, none⟩), .pointer (some ⟨b15, 0, none⟩)], .slice A2 l1.length c3, .int .i64 (l1.length : Int), (j262 1), (j262 2), (j262 3), (j262 4), (j262 5), (j262 6), (j262 7), (j262 8), (j262 9), (j262 10), (j262 11), (j262 12), (j262 13), (j262 14), (j262 15), (j262 16), (j262 17), (j262 18), (j262 19), (j262 20), (j262 21), (j262 22), (j262 23), (j262 24), (j262 25), (j262 26), (j262 27), (j262 28), (j262 29), (j262 30), (j262 31), (j262 32), (j262 33), (j262 34), (j262 35), (j262 36), (j262 37), (j262 38), (j262 39), (j262 40), (j262 41), (j262 42), (j262 43), (j262 44), (j262 45), (j262 46), (j262 47), (j262 48), (j262 49), (j262 50), (j262 51), (j262 52), (j262 53), (j262 54), (j262 55), (j262 56), (j262 57), .int .i64 x265, .bool false, undef, undef, .func (.func 27) #[] #[.pointer (some ⟨b21, 0, none⟩), .pointer (some ⟨b15, 0, none⟩)], .func (.func 27) #[] #[.pointer (some ⟨b21, 0, none⟩), .pointer (some ⟨b15, 0, none⟩)], .int .i64 sx263, .agg #[.int .i64 vt301.Num, .int .i64 vt301.Den], .func (.func 27) #[] #[.pointer (some ⟨b21, 0, none⟩), .pointer (some ⟨b15, 0, none⟩)], .int .i64 sy264, .agg #[.int .i64 vt310.Num, .int .i64 vt310.Den], .int .i64 vt311, .bool true, .agg #[.int .i64 0, .int .i64 0], .agg #[.int .i64 0, .int .i64 0], undef, undef, undef], []⟩) rfl (by kernel_rfl) (by kernel_rfl) (by kernel_rfl) hnp (Sg.g3 (Sx.of [[(b11, .cells #[.int .i64 vt310.Num, .int .i64 vt310.Den] 41 (0, 0))], [(b7, .cells #[.int .i64 vt301.Num, .int .i64 vt301.Den] 41 (0, 0))], [(b15, .cells #[.int .i64 vt311] 24 (0, 0))]] (FM.le.refl _) HS334) (fun _ => St.only [] HS334 (FM.le.refl _)) (fun _ => St.only [[(b11, .cells #[.int .i64 vt310.Num, .int .i64 vt310.Den] 41 (0, 0))]] HS334 (FM.le.refl _)) (fun _ => St.only [[(b11, .cells #[.int .i64 vt310.Num, .int .i64 vt310.Den] 41 (0, 0))], [(b7, .cells #[.int .i64 vt301.Num, .int .i64 vt301.Den] 41 (0, 0))]] HS334 (FM.le.refl _))) ?_
        refine takeGQ 2 [5] rfl (by kernel_rfl) (by kernel_rfl) (by kernel_rfl) (by kernel_rfl) (by kernel_rfl) (by kernel_rfl) hnp (Sg.g3 (Sx.of [[(b11, .cells #[.int .i64 vt310.Num, .int .i64 vt310.Den] 41 (0, 0))], [(b7, .cells #[.int .i64 vt301.Num, .int .i64 vt301.Den] 41 (0, 0))], [(b15, .cells #[.int .i64 vt311] 24 (0, 0))]] (FM.le.refl _) HS334) (fun _ => St.only [] HS334 (FM.le.refl _)) (fun _ => St.only [[(b11, .cells #[.int .i64 vt310.Num, .int .i64 vt310.Den] 41 (0, 0))]] HS334 (FM.le.refl _)) (fun _ => St.only [[(b11, .cells #[.int .i64 vt310.Num, .int .i64 vt310.Den] 41 (0, 0))], [(b7, .cells #[.int .i64 vt301.Num, .int .i64 vt301.Den] 41 (0, 0))]] HS334 (FM.le.refl _))) (fun w_ hw_ => by obtain ⟨g_, hl_, hS_⟩ := hw_.seg (j := 5) (s := [(b15, .cells #[.int .i64 vt311] 24 (0, 0))]) (by simp) (by simp); exact run_load rfl Try.underlying24 rfl (by kernel_rfl : _ = Value.pointer (some ⟨b15, 0, none⟩)) (hS_.cell 0)) ?_
        have HS335 := HS334.u1
        refine takeGE 3 (by kernel_rfl) rfl (by kernel_rfl) (does_store (n := 2) (vs := [.int .i64 0, .int .i64 0]) (cs' := #[.int .i64 0, .int .i64 0]) rfl (by kernel_rfl) (by kernel_rfl : _ = Value.pointer (some ⟨b7, 0, none⟩)) (by kernel_rfl : _ = Value.agg #[.int .i64 0, .int .i64 0]) rfl rfl (by intro u_ hu_; simp only [List.mem_cons, List.not_mem_nil, or_false] at hu_; rcases hu_ with rfl | rfl <;> rfl) HS335 (Nat.le_of_ble_eq_true rfl) (by kernel_rfl) ?_)
        intro W336 HS337
        refine ⟨(Sg.g3 (Sx.of [[(b7, .cells #[.int .i64 0, .int .i64 0] 41 (0, 0))], [(b11, .cells #[.int .i64 vt310.Num, .int .i64 vt310.Den] 41 (0, 0))], [(b15, .cells #[.int .i64 vt311] 24 (0, 0))]] (FM.le.refl _) HS337) (fun _ => St.only [[(b7, .cells #[.int .i64 0, .int .i64 0] 41 (0, 0))]] HS337 (FM.le.refl _)) (fun hl_ => Bool.noConfusion (show true = false from hl_)) (fun _ => St.only [[(b7, .cells #[.int .i64 0, .int .i64 0] 41 (0, 0))], [(b11, .cells #[.int .i64 vt310.Num, .int .i64 vt310.Den] 41 (0, 0))]] HS337 (FM.le.refl _))), ?_⟩
        have HS338 := HS337.u1
        refine takeGE 4 (by kernel_rfl) rfl (by kernel_rfl) (does_store (n := 2) (vs := [.int .i64 0, .int .i64 0]) (cs' := #[.int .i64 0, .int .i64 0]) rfl (by kernel_rfl) (by kernel_rfl : _ = Value.pointer (some ⟨b11, 0, none⟩)) (by kernel_rfl : _ = Value.agg #[.int .i64 0, .int .i64 0]) rfl rfl (by intro u_ hu_; simp only [List.mem_cons, List.not_mem_nil, or_false] at hu_; rcases hu_ with rfl | rfl <;> rfl) HS338 (Nat.le_of_ble_eq_true rfl) (by kernel_rfl) ?_)
        intro W339 HS340
        refine ⟨(Sg.g3 (Sx.of [[(b11, .cells #[.int .i64 0, .int .i64 0] 41 (0, 0))], [(b7, .cells #[.int .i64 0, .int .i64 0] 41 (0, 0))], [(b15, .cells #[.int .i64 vt311] 24 (0, 0))]] (FM.le.refl _) HS340) (fun hl_ => Bool.noConfusion (show true = false from hl_)) (fun hl_ => Bool.noConfusion (show true = false from hl_)) (fun _ => St.only [[(b11, .cells #[.int .i64 0, .int .i64 0] 41 (0, 0))], [(b7, .cells #[.int .i64 0, .int .i64 0] 41 (0, 0))]] HS340 (FM.le.refl _))), ?_⟩
        have HS341 := HS340.u2
        refine takeGE 5 (by kernel_rfl) rfl (by kernel_rfl) (does_store (n := 1) (vs := [.int .i64 vt311]) (cs' := #[.int .i64 vt311]) rfl (by kernel_rfl) (by kernel_rfl : _ = Value.pointer (some ⟨b15, 0, none⟩)) (by kernel_rfl : _ = Value.int .i64 vt311) rfl rfl (by intro u_ hu_; simp only [List.mem_cons, List.not_mem_nil, or_false] at hu_; subst hu_; rfl) HS341 (Nat.le_of_ble_eq_true rfl) (by kernel_rfl) ?_)
        intro W342 HS343
        refine ⟨(Sg.g3 (Sx.of [[(b15, .cells #[.int .i64 vt311] 24 (0, 0))], [(b11, .cells #[.int .i64 0, .int .i64 0] 41 (0, 0))], [(b7, .cells #[.int .i64 0, .int .i64 0] 41 (0, 0))]] (FM.le.refl _) HS343) (fun hl_ => Bool.noConfusion (show true = false from hl_)) (fun hl_ => Bool.noConfusion (show true = false from hl_)) (fun hl_ => Bool.noConfusion (show true = false from hl_))), ?_⟩
        refine doneG (by kernel_rfl) ?_ _
        refine hK328 _ _ ?_
        refine wp_ret ?_
        refine hret _ _ ?_
        refine ends (v := Value.tuple #[.agg #[.int .i64 0, .int .i64 0], .agg #[.int .i64 0, .int .i64 0], .int .i64 vt311]) (results3 (q1 := .cell 2 41) (q2 := .cell 3 41) (q3 := .cell 4 24) (by kernel_rfl) (resN (n := 2) (cs := [.int .i64 0, .int .i64 0]) (by kernel_rfl : _ = Value.pointer (some ⟨b7, 0, none⟩)) Try.underlying41 rfl (by kernel_rfl) rfl (HS343.u2.cells 0 2 _ rfl)) (resN (n := 2) (cs := [.int .i64 0, .int .i64 0]) (by kernel_rfl : _ = Value.pointer (some ⟨b11, 0, none⟩)) Try.underlying41 rfl (by kernel_rfl) rfl (HS343.u1.cells 0 2 _ rfl)) (resC (by kernel_rfl : _ = Value.pointer (some ⟨b15, 0, none⟩)) Try.underlying24 rfl (HS343.cell 0))) (by kernel_rfl) ?_
        have HS385 := HS343.drop
        have HS386 := HS385.drop
        have HS387 := HS386.drop
        have HS388 := HS387.drop
        injection h with h
        injection h with h0_ h
        injection h with h1_ h
        subst h0_ h1_ h
        exact ⟨f313, rfl, (L259.trans (L305.trans L314)), HS388⟩
      · have c326 : ¬ (vt311 ≠ 0) := c326
        refine wpRwI 82 (x := (vt311 != 0)) (v := false) (by kernel_rfl) (bne_eq_false_iff_eq.mpr (Decidable.of_not_not c326)) ?_
        refine condF (by kernel_rfl) ?_
        refine wp_skip ?_
        refine hK296 _ _ ?_
        refine wp_seq_k (fun K344 hK345 => ?_)
        have HS346 := HS322.u2
        have HS347 := HS346.u3
        have HS348 := HS347.u3
        have HS349 := HS348.u3
        refine heldG (S := Sg t f313 ([(b21, .cells #[.int .i64 x265] 2 (0, 0))] :: H) [(3, [(b11, .cells #[.int .i64 vt310.Num, .int .i64 vt310.Den] 41 (0, 0))]), (2, [(b7, .cells #[.int .i64 vt301.Num, .int .i64 vt301.Den] 41 (0, 0))]), (4, [(b15, .cells #[.int .i64 vt311] 24 (0, 0))])]) (n := 5) (by kernel_rfl) rfl HS349 ?_
        intro W350 HS351
        refine takeGQ 0 [2] rfl (by kernel_rfl) (by kernel_rfl) (by kernel_rfl) (by kernel_rfl) (by kernel_rfl) (by kernel_rfl) hnp (Sg.g3 (Sx.of [[(b11, .cells #[.int .i64 vt310.Num, .int .i64 vt310.Den] 41 (0, 0))], [(b7, .cells #[.int .i64 vt301.Num, .int .i64 vt301.Den] 41 (0, 0))], [(b15, .cells #[.int .i64 vt311] 24 (0, 0))]] (FM.le.refl _) HS351) (fun _ => St.only [] HS351 (FM.le.refl _)) (fun _ => St.only [[(b11, .cells #[.int .i64 vt310.Num, .int .i64 vt310.Den] 41 (0, 0))]] HS351 (FM.le.refl _)) (fun _ => St.only [[(b11, .cells #[.int .i64 vt310.Num, .int .i64 vt310.Den] 41 (0, 0))], [(b7, .cells #[.int .i64 vt301.Num, .int .i64 vt301.Den] 41 (0, 0))]] HS351 (FM.le.refl _))) (fun w_ hw_ => by obtain ⟨g_, hl_, hS_⟩ := hw_.seg (j := 2) (s := [(b7, .cells #[.int .i64 vt301.Num, .int .i64 vt301.Den] 41 (0, 0))]) (by simp) (by simp); exact run_loadN (n := 2) rfl Try.underlying41 rfl (by kernel_rfl) (by kernel_rfl : _ = Value.pointer (some ⟨b7, 0, none⟩)) (cs := [.int .i64 vt301.Num, .int .i64 vt301.Den]) rfl (hS_.cells 0 2 _ rfl)) ?_
        refine takeGQ 1 [3] rfl (by kernel_rfl) (by kernel_rfl) (by kernel_rfl) (by kernel_rfl) (by kernel_rfl) (by kernel_rfl) hnp (Sg.g3 (Sx.of [[(b11, .cells #[.int .i64 vt310.Num, .int .i64 vt310.Den] 41 (0, 0))], [(b7, .cells #[.int .i64 vt301.Num, .int .i64 vt301.Den] 41 (0, 0))], [(b15, .cells #[.int .i64 vt311] 24 (0, 0))]] (FM.le.refl _) HS351) (fun _ => St.only [] HS351 (FM.le.refl _)) (fun _ => St.only [[(b11, .cells #[.int .i64 vt310.Num, .int .i64 vt310.Den] 41 (0, 0))]] HS351 (FM.le.refl _)) (fun _ => St.only [[(b11, .cells #[.int .i64 vt310.Num, .int .i64 vt310.Den] 41 (0, 0))], [(b7, .cells #[.int .i64 vt301.Num, .int .i64 vt301.Den] 41 (0, 0))]] HS351 (FM.le.refl _))) (fun w_ hw_ => by obtain ⟨g_, hl_, hS_⟩ := hw_.seg (j := 3) (s := [(b11, .cells #[.int .i64 vt310.Num, .int .i64 vt310.Den] 41 (0, 0))]) (by simp) (by simp); exact run_loadN (n := 2) rfl Try.underlying41 rfl (by kernel_rfl) (by kernel_rfl : _ = Value.pointer (some ⟨b11, 0, none⟩)) (cs := [.int .i64 vt310.Num, .int .i64 vt310.Den]) rfl (hS_.cells 0 2 _ rfl)) ?_
        have HS352 := HS351.u1
        refine takeGE 2 (by kernel_rfl) rfl (by kernel_rfl) (does_store (n := 2) (vs := [.int .i64 vt301.Num, .int .i64 vt301.Den]) (cs' := #[.int .i64 vt301.Num, .int .i64 vt301.Den]) rfl (by kernel_rfl) (by kernel_rfl : _ = Value.pointer (some ⟨b7, 0, none⟩)) (by kernel_rfl : _ = Value.agg #[.int .i64 vt301.Num, .int .i64 vt301.Den]) rfl rfl (by intro u_ hu_; simp only [List.mem_cons, List.not_mem_nil, or_false] at hu_; rcases hu_ with rfl | rfl <;> rfl) HS352 (Nat.le_of_ble_eq_true rfl) (by kernel_rfl) ?_)
        intro W353 HS354
        refine ⟨(Sg.g3 (Sx.of [[(b7, .cells #[.int .i64 vt301.Num, .int .i64 vt301.Den] 41 (0, 0))], [(b11, .cells #[.int .i64 vt310.Num, .int .i64 vt310.Den] 41 (0, 0))], [(b15, .cells #[.int .i64 vt311] 24 (0, 0))]] (FM.le.refl _) HS354) (fun _ => St.only [[(b7, .cells #[.int .i64 vt301.Num, .int .i64 vt301.Den] 41 (0, 0))]] HS354 (FM.le.refl _)) (fun hl_ => Bool.noConfusion (show true = false from hl_)) (fun _ => St.only [[(b7, .cells #[.int .i64 vt301.Num, .int .i64 vt301.Den] 41 (0, 0))], [(b11, .cells #[.int .i64 vt310.Num, .int .i64 vt310.Den] 41 (0, 0))]] HS354 (FM.le.refl _))), ?_⟩
        have HS355 := HS354.u1
        refine takeGE 3 (by kernel_rfl) rfl (by kernel_rfl) (does_store (n := 2) (vs := [.int .i64 vt310.Num, .int .i64 vt310.Den]) (cs' := #[.int .i64 vt310.Num, .int .i64 vt310.Den]) rfl (by kernel_rfl) (by kernel_rfl : _ = Value.pointer (some ⟨b11, 0, none⟩)) (by kernel_rfl : _ = Value.agg #[.int .i64 vt310.Num, .int .i64 vt310.Den]) rfl rfl (by intro u_ hu_; simp only [List.mem_cons, List.not_mem_nil, or_false] at hu_; rcases hu_ with rfl | rfl <;> rfl) HS355 (Nat.le_of_ble_eq_true rfl) (by kernel_rfl) ?_)
        intro W356 HS357
        refine ⟨(Sg.g3 (Sx.of [[(b11, .cells #[.int .i64 vt310.Num, .int .i64 vt310.Den] 41 (0, 0))], [(b7, .cells #[.int .i64 vt301.Num, .int .i64 vt301.Den] 41 (0, 0))], [(b15, .cells #[.int .i64 vt311] 24 (0, 0))]] (FM.le.refl _) HS357) (fun hl_ => Bool.noConfusion (show true = false from hl_)) (fun hl_ => Bool.noConfusion (show true = false from hl_)) (fun _ => St.only [[(b11, .cells #[.int .i64 vt310.Num, .int .i64 vt310.Den] 41 (0, 0))], [(b7, .cells #[.int .i64 vt301.Num, .int .i64 vt301.Den] 41 (0, 0))]] HS357 (FM.le.refl _))), ?_⟩
        have HS358 := HS357.u2
        refine takeGE 4 (by kernel_rfl) rfl (by kernel_rfl) (does_store (n := 1) (vs := [.int .i64 0]) (cs' := #[.int .i64 0]) rfl (by kernel_rfl) (by kernel_rfl : _ = Value.pointer (some ⟨b15, 0, none⟩)) (by kernel_rfl : _ = Value.int .i64 0) rfl rfl (by intro u_ hu_; simp only [List.mem_cons, List.not_mem_nil, or_false] at hu_; subst hu_; rfl) HS358 (Nat.le_of_ble_eq_true rfl) (by kernel_rfl) ?_)
        intro W359 HS360
        refine ⟨(Sg.g3 (Sx.of [[(b15, .cells #[.int .i64 0] 24 (0, 0))], [(b11, .cells #[.int .i64 vt310.Num, .int .i64 vt310.Den] 41 (0, 0))], [(b7, .cells #[.int .i64 vt301.Num, .int .i64 vt301.Den] 41 (0, 0))]] (FM.le.refl _) HS360) (fun hl_ => Bool.noConfusion (show true = false from hl_)) (fun hl_ => Bool.noConfusion (show true = false from hl_)) (fun hl_ => Bool.noConfusion (show true = false from hl_))), ?_⟩
        refine doneG (by kernel_rfl) ?_ _
        refine hK345 _ _ ?_
        refine wp_ret ?_
        refine hret _ _ ?_
        refine ends (v := Value.tuple #[.agg #[.int .i64 vt301.Num, .int .i64 vt301.Den], .agg #[.int .i64 vt310.Num, .int .i64 vt310.Den], .int .i64 0]) (results3 (q1 := .cell 2 41) (q2 := .cell 3 41) (q3 := .cell 4 24) (by kernel_rfl) (resN (n := 2) (cs := [.int .i64 vt301.Num, .int .i64 vt301.Den]) (by kernel_rfl : _ = Value.pointer (some ⟨b7, 0, none⟩)) Try.underlying41 rfl (by kernel_rfl) rfl (HS360.u2.cells 0 2 _ rfl)) (resN (n := 2) (cs := [.int .i64 vt310.Num, .int .i64 vt310.Den]) (by kernel_rfl : _ = Value.pointer (some ⟨b11, 0, none⟩)) Try.underlying41 rfl (by kernel_rfl) rfl (HS360.u1.cells 0 2 _ rfl)) (resC (by kernel_rfl : _ = Value.pointer (some ⟨b15, 0, none⟩)) Try.underlying24 rfl (HS360.cell 0))) (by kernel_rfl) ?_
        have HS389 := HS360.drop
        have HS390 := HS389.drop
        have HS391 := HS390.drop
        have HS392 := HS391.drop
        injection h with h
        injection h with h0_ h
        injection h with h1_ h
        subst h0_ h1_ h
        exact ⟨f313, rfl, (L259.trans (L305.trans L314)), HS392⟩
  clear h; have h := hv266; clear hv266
  refine loopK (fun n_ a_ w_ => ∃ (f150 : FM) (sx155 : Int) (sy156 : Int) (x157 : Int) (x158 : Int) (j154 : Nat → Value), FM.le f f150 ∧ St t w_ f150 ([(b21, .cells #[.int .i64 x158] 2 (0, 0))] :: [(b15, .cells #[.int .i64 0] 24 (0, 0))] :: [(b11, .cells #[.int .i64 0, .int .i64 0] 41 (0, 0))] :: [(b7, .cells #[.int .i64 0, .int .i64 0] 41 (0, 0))] :: H) ∧ optics_Centre.l0 k l1 n_ sx155 sy156 x157 x158 = some o146 ∧ a_ = ⟨#[.slice A2 l1.length c3, undef, .pointer (some ⟨b7, 0, none⟩), .pointer (some ⟨b11, 0, none⟩), .pointer (some ⟨b15, 0, none⟩), .pointer (some ⟨b21, 0, none⟩), .int .i64 sx155, .int .i64 sy156, undef, (j154 0), undef, .slice A2 l1.length c3, .int .i64 (l1.length : Int), .int .i64 x157, (j154 1), (j154 2), (j154 3), (j154 4), (j154 5), (j154 6), (j154 7), (j154 8), (j154 9), (j154 10), (j154 11), (j154 12), (j154 13), (j154 14), (j154 15), (j154 16), (j154 17), (j154 18), (j154 19), (j154 20), (j154 21), (j154 22), (j154 23), (j154 24), (j154 25), (j154 26), (j154 27), (j154 28), (j154 29), (j154 30), (j154 31), (j154 32), (j154 33), (j154 34), (j154 35), (j154 36), (j154 37), (j154 38), (j154 39), (j154 40), (j154 41), (j154 42), (j154 43), (j154 44), (j154 45), (j154 46), (j154 47), (j154 48), (j154 49), (j154 50), (j154 51), (j154 52), (j154 53), (j154 54), (j154 55), (j154 56), undef, undef, undef, undef, undef, undef, undef, undef, undef, undef, undef, undef, undef, undef, undef, undef, undef, undef], []⟩) k ⟨f, 0, 0, 0, 0, (fun i_ => [undef, undef, undef, undef, undef, undef, undef, undef, undef, undef, undef, undef, undef, undef, undef, undef, undef, undef, undef, undef, undef, undef, undef, undef, undef, undef, undef, undef, undef, undef, undef, undef, undef, undef, undef, undef, undef, undef, undef, undef, undef, undef, undef, undef, undef, undef, undef, undef, undef, undef, undef, undef, undef, undef, undef, undef, undef].getD i_ undef), (FM.le.refl _), HS23, h, (by kernel_rfl)⟩ ?_
  clear h
  rintro n149 _ W152 ⟨f150, sx155, sy156, x157, x158, j154, L151, HS153, h, rfl⟩ K147 hK148
  obtain _ | n149 := n149
  · exact nomatch h
  simp only [optics_Centre.l0] at h
  refine wp_seq_k (fun K159 hK160 => ?_)
  refine wp_region_lit ?_
  refine seqS1 (a' := ⟨#[.slice A2 l1.length c3, undef, .pointer (some ⟨b7, 0, none⟩), .pointer (some ⟨b11, 0, none⟩), .pointer (some ⟨b15, 0, none⟩), .pointer (some ⟨b21, 0, none⟩), .int .i64 sx155, .int .i64 sy156, undef, (j154 0), undef, .slice A2 l1.length c3, .int .i64 (l1.length : Int), .int .i64 x157, .bool (decide (x157 < (l1.length : Int))), (j154 2), (j154 3), (j154 4), (j154 5), (j154 6), (j154 7), (j154 8), (j154 9), (j154 10), (j154 11), (j154 12), (j154 13), (j154 14), (j154 15), (j154 16), (j154 17), (j154 18), (j154 19), (j154 20), (j154 21), (j154 22), (j154 23), (j154 24), (j154 25), (j154 26), (j154 27), (j154 28), (j154 29), (j154 30), (j154 31), (j154 32), (j154 33), (j154 34), (j154 35), (j154 36), (j154 37), (j154 38), (j154 39), (j154 40), (j154 41), (j154 42), (j154 43), (j154 44), (j154 45), (j154 46), (j154 47), (j154 48), (j154 49), (j154 50), (j154 51), (j154 52), (j154 53), (j154 54), (j154 55), (j154 56), undef, undef, undef, undef, undef, undef, undef, undef, undef, undef, undef, undef, undef, undef, undef, undef, undef, undef], []⟩) (by kernel_rfl) ?_
  refine wpList_nil ?_
  refine hK160 _ _ ?_
  refine wp_seq_k (fun K161 hK162 => ?_)
  have hq_ := ite_some h; clear h; rcases hq_ with ⟨c164, h⟩ | ⟨c164, h⟩
  · have c164 : x157 < (l1.length : Int) := c164
    refine wpRwI 14 (x := (decide (x157 < (l1.length : Int)))) (v := true) (by kernel_rfl) (decide_eq_true c164) ?_
    refine condT (by kernel_rfl) ?_
    refine wp_skip ?_
    refine hK162 _ _ ?_
    refine wp_seq_k (fun K165 hK166 => ?_)
    refine blockK (fun B167 hx168 hn169 hr170 ho171 hp172 => ?_)
    refine wp_seq_k (fun K174 hK175 => ?_)
    refine wp_region_lit ?_
    have hq_ := guard_some h; clear h; obtain ⟨c176, h⟩ := hq_
    have c176 : 0 ≤ x157 := c176
    obtain ⟨b180, of181, cs177, rfl, hr178, hc179⟩ := (HR4.mono L151).at (i := x157) c176 c164
    obtain rfl := hr178
    refine seqK rfl (does_run (run_index (sz := 3) rfl Try.underlying37 (by kernel_rfl) (by kernel_rfl : _ = Value.slice (some ⟨b180, of181, none⟩) l1.length c3) (by kernel_rfl : _ = Value.int .i64 x157) c176 c164 W152) ?_)
    refine seqK rfl (does_run (run_loadN (n := 3) rfl Try.underlying45 rfl (by kernel_rfl) (by kernel_rfl : _ = Value.pointer (some ⟨b180, of181 + (x157 : Int).toNat * 3, none⟩)) (cs := [.int .i64 ((rd l1 x157).X), .int .i64 ((rd l1 x157).Y), .int .i64 ((rd l1 x157).Light)]) rfl (fun j_ hj_ => ((hc179 (FM.le.refl _) HS153) j_ hj_))) ?_)
    refine seqK rfl (does_alloc (z := Value.agg #[.int .i64 0, .int .i64 0, .int .i64 0]) (cs := #[.int .i64 0, .int .i64 0, .int .i64 0]) rfl (by kernel_rfl) rfl HS153 ?_)
    intro b182 W183 HS184
    refine seqK rfl (does_store (n := 3) (vs := [.int .i64 ((rd l1 x157).X), .int .i64 ((rd l1 x157).Y), .int .i64 ((rd l1 x157).Light)]) (cs' := #[.int .i64 ((rd l1 x157).X), .int .i64 ((rd l1 x157).Y), .int .i64 ((rd l1 x157).Light)]) rfl (by kernel_rfl) (by kernel_rfl : _ = Value.pointer (some ⟨b182, 0, none⟩)) (by kernel_rfl : _ = Value.agg #[.int .i64 ((rd l1 x157).X), .int .i64 ((rd l1 x157).Y), .int .i64 ((rd l1 x157).Light)]) rfl rfl (by intro u_ hu_; simp only [List.mem_cons, List.not_mem_nil, or_false] at hu_; rcases hu_ with rfl | rfl | rfl <;> rfl) HS184 (Nat.le_of_ble_eq_true rfl) (by kernel_rfl) ?_)
    intro W186 HS187
    refine wpList_nil ?_
    refine hK175 _ _ ?_
    refine wp_seq_k (fun K188 hK189 => ?_)
    refine blockK (fun B190 hx191 hn192 hr193 ho194 hp195 => ?_)
    refine wp_seq_k (fun K197 hK198 => ?_)
    refine wp_region_lit ?_
    refine seqL1 (by kernel_rfl) ?_
    refine seqK rfl (does_run (run_load rfl Try.underlying3 rfl (by kernel_rfl : _ = Value.pointer (some ⟨b182, 0, none⟩)) (HS187.cell 0)) ?_)
    refine seqL1 (by kernel_rfl) ?_
    refine seqK rfl (does_run (run_load rfl Try.underlying3 rfl (by kernel_rfl : _ = Value.pointer (some ⟨b182, 1, none⟩)) (HS187.cell 1)) ?_)
    refine seqS3 (a' := ⟨#[.slice (some ⟨b180, of181, none⟩) l1.length c3, undef, .pointer (some ⟨b7, 0, none⟩), .pointer (some ⟨b11, 0, none⟩), .pointer (some ⟨b15, 0, none⟩), .pointer (some ⟨b21, 0, none⟩), .int .i64 sx155, .int .i64 sy156, undef, .pointer (some ⟨b182, 0, none⟩), undef, .slice (some ⟨b180, of181, none⟩) l1.length c3, .int .i64 (l1.length : Int), .int .i64 x157, .bool true, .pointer (some ⟨b180, of181 + (x157 : Int).toNat * 3, none⟩), .agg #[.int .i64 ((rd l1 x157).X), .int .i64 ((rd l1 x157).Y), .int .i64 ((rd l1 x157).Light)], (j154 4), .pointer (some ⟨b182, 0, none⟩), .int .i64 ((rd l1 x157).X), .pointer (some ⟨b182, 1, none⟩), .int .i64 ((rd l1 x157).Y), .int .i64 (mx ((rd l1 x157).X) ((rd l1 x157).Y)), .bool (decide ((mx ((rd l1 x157).X) ((rd l1 x157).Y)) > 300)), .bool (decide ((mx ((rd l1 x157).X) ((rd l1 x157).Y)) > 300)), (j154 12), (j154 13), (j154 14), (j154 15), (j154 16), (j154 17), (j154 18), (j154 19), (j154 20), (j154 21), (j154 22), (j154 23), (j154 24), (j154 25), (j154 26), (j154 27), (j154 28), (j154 29), (j154 30), (j154 31), (j154 32), (j154 33), (j154 34), (j154 35), (j154 36), (j154 37), (j154 38), (j154 39), (j154 40), (j154 41), (j154 42), (j154 43), (j154 44), (j154 45), (j154 46), (j154 47), (j154 48), (j154 49), (j154 50), (j154 51), (j154 52), (j154 53), (j154 54), (j154 55), (j154 56), undef, undef, undef, undef, undef, undef, undef, undef, undef, undef, undef, undef, undef, undef, undef, undef, undef, undef], []⟩) (by kernel_rfl) ?_
    have hq_ := ite_some h; clear h; rcases hq_ with ⟨c199, h⟩ | ⟨c199, h⟩
    · have c199 : (mx ((rd l1 x157).X) ((rd l1 x157).Y)) > 300 := c199
      refine seqRwI 23 (x := (decide ((mx ((rd l1 x157).X) ((rd l1 x157).Y)) > 300))) (v := true) (by kernel_rfl) (decide_eq_true c199) ?_
      refine seqRwI 24 (x := (decide ((mx ((rd l1 x157).X) ((rd l1 x157).Y)) > 300))) (v := true) (by kernel_rfl) (decide_eq_true c199) ?_
      refine seqS13 (a' := ⟨#[.slice (some ⟨b180, of181, none⟩) l1.length c3, undef, .pointer (some ⟨b7, 0, none⟩), .pointer (some ⟨b11, 0, none⟩), .pointer (some ⟨b15, 0, none⟩), .pointer (some ⟨b21, 0, none⟩), .int .i64 sx155, .int .i64 sy156, undef, .pointer (some ⟨b182, 0, none⟩), undef, .slice (some ⟨b180, of181, none⟩) l1.length c3, .int .i64 (l1.length : Int), .int .i64 x157, .bool true, .pointer (some ⟨b180, of181 + (x157 : Int).toNat * 3, none⟩), .agg #[.int .i64 ((rd l1 x157).X), .int .i64 ((rd l1 x157).Y), .int .i64 ((rd l1 x157).Light)], .bool true, .pointer (some ⟨b182, 0, none⟩), .int .i64 ((rd l1 x157).X), .pointer (some ⟨b182, 1, none⟩), .int .i64 ((rd l1 x157).Y), .int .i64 (mx ((rd l1 x157).X) ((rd l1 x157).Y)), .bool true, .bool true, undef, undef, undef, undef, undef, undef, .bool true, .bool true, undef, undef, undef, .bool true, (j154 24), (j154 25), (j154 26), (j154 27), (j154 28), (j154 29), (j154 30), (j154 31), (j154 32), (j154 33), (j154 34), (j154 35), (j154 36), (j154 37), (j154 38), (j154 39), (j154 40), (j154 41), (j154 42), (j154 43), (j154 44), (j154 45), (j154 46), (j154 47), (j154 48), (j154 49), (j154 50), (j154 51), (j154 52), (j154 53), (j154 54), (j154 55), (j154 56), undef, undef, undef, undef, undef, undef, undef, undef, undef, undef, undef, undef, undef, undef, undef, undef, undef, undef], []⟩) (by kernel_rfl) ?_
      refine wpList_nil ?_
      refine hK198 _ _ ?_
      refine condT (by kernel_rfl) ?_
      refine wp_seq_k (fun K200 hK201 => ?_)
      refine wp_region_lit ?_
      have HS202 := HS187.u4
      refine seqL2 (by kernel_rfl) ?_
      refine seqK rfl (does_store (n := 2) (vs := [.int .i64 0, .int .i64 0]) (cs' := #[.int .i64 0, .int .i64 0]) rfl (by kernel_rfl) (by kernel_rfl : _ = Value.pointer (some ⟨b7, 0, none⟩)) (by kernel_rfl : _ = Value.agg #[.int .i64 0, .int .i64 0]) rfl rfl (by intro u_ hu_; simp only [List.mem_cons, List.not_mem_nil, or_false] at hu_; rcases hu_ with rfl | rfl <;> rfl) HS202 (Nat.le_of_ble_eq_true rfl) (by kernel_rfl) ?_)
      intro W203 HS204
      have HS205 := HS204.u4
      refine seqK rfl (does_store (n := 2) (vs := [.int .i64 0, .int .i64 0]) (cs' := #[.int .i64 0, .int .i64 0]) rfl (by kernel_rfl) (by kernel_rfl : _ = Value.pointer (some ⟨b11, 0, none⟩)) (by kernel_rfl : _ = Value.agg #[.int .i64 0, .int .i64 0]) rfl rfl (by intro u_ hu_; simp only [List.mem_cons, List.not_mem_nil, or_false] at hu_; rcases hu_ with rfl | rfl <;> rfl) HS205 (Nat.le_of_ble_eq_true rfl) (by kernel_rfl) ?_)
      intro W206 HS207
      have HS208 := HS207.u4
      refine seqK rfl (does_store (n := 1) (vs := [.int .i64 4]) (cs' := #[.int .i64 4]) rfl (by kernel_rfl) (by kernel_rfl : _ = Value.pointer (some ⟨b15, 0, none⟩)) (by kernel_rfl : _ = Value.int .i64 4) rfl rfl (by intro u_ hu_; simp only [List.mem_cons, List.not_mem_nil, or_false] at hu_; subst hu_; rfl) HS208 (Nat.le_of_ble_eq_true rfl) (by kernel_rfl) ?_)
      intro W209 HS210
      refine wpList_nil ?_
      refine hK201 _ _ ?_
      refine wp_ret ?_
      refine hr193 _ _ ?_
      refine hr170 _ _ ?_
      refine hr32 _ _ ?_
      refine hret _ _ ?_
      refine ends (v := Value.tuple #[.agg #[.int .i64 0, .int .i64 0], .agg #[.int .i64 0, .int .i64 0], .int .i64 4]) (results3 (q1 := .cell 2 41) (q2 := .cell 3 41) (q3 := .cell 4 24) (by kernel_rfl) (resN (n := 2) (cs := [.int .i64 0, .int .i64 0]) (by kernel_rfl : _ = Value.pointer (some ⟨b7, 0, none⟩)) Try.underlying41 rfl (by kernel_rfl) rfl (HS210.u2.cells 0 2 _ rfl)) (resN (n := 2) (cs := [.int .i64 0, .int .i64 0]) (by kernel_rfl : _ = Value.pointer (some ⟨b11, 0, none⟩)) Try.underlying41 rfl (by kernel_rfl) rfl (HS210.u1.cells 0 2 _ rfl)) (resC (by kernel_rfl : _ = Value.pointer (some ⟨b15, 0, none⟩)) Try.underlying24 rfl (HS210.cell 0))) (by kernel_rfl) ?_
      have HS361 := HS210.drop
      have HS362 := HS361.drop
      have HS363 := HS362.drop
      have HS364 := HS363.drop
      have HS365 := HS364.drop
      replace h := JR268 _ h
      injection h with h
      injection h with h0_ h
      injection h with h1_ h
      subst h0_ h1_ h
      exact ⟨f150, rfl, L151, HS365⟩
    · have c199 : ¬ ((mx ((rd l1 x157).X) ((rd l1 x157).Y)) > 300) := c199
      refine seqRwI 23 (x := (decide ((mx ((rd l1 x157).X) ((rd l1 x157).Y)) > 300))) (v := false) (by kernel_rfl) (decide_eq_false c199) ?_
      refine seqRwI 24 (x := (decide ((mx ((rd l1 x157).X) ((rd l1 x157).Y)) > 300))) (v := false) (by kernel_rfl) (decide_eq_false c199) ?_
      refine seqL1 (by kernel_rfl) ?_
      refine seqG (by kernel_rfl) (does_run (run_load rfl Try.underlying3 rfl (by kernel_rfl : _ = Value.pointer (some ⟨b182, 0, none⟩)) (HS187.cell 0)) ?_)
      refine seqL1 (by kernel_rfl) ?_
      refine seqG (by kernel_rfl) (does_run (run_load rfl Try.underlying3 rfl (by kernel_rfl : _ = Value.pointer (some ⟨b182, 1, none⟩)) (HS187.cell 1)) ?_)
      refine seqS4 (a' := ⟨#[.slice (some ⟨b180, of181, none⟩) l1.length c3, undef, .pointer (some ⟨b7, 0, none⟩), .pointer (some ⟨b11, 0, none⟩), .pointer (some ⟨b15, 0, none⟩), .pointer (some ⟨b21, 0, none⟩), .int .i64 sx155, .int .i64 sy156, undef, .pointer (some ⟨b182, 0, none⟩), undef, .slice (some ⟨b180, of181, none⟩) l1.length c3, .int .i64 (l1.length : Int), .int .i64 x157, .bool true, .pointer (some ⟨b180, of181 + (x157 : Int).toNat * 3, none⟩), .agg #[.int .i64 ((rd l1 x157).X), .int .i64 ((rd l1 x157).Y), .int .i64 ((rd l1 x157).Light)], (j154 4), .pointer (some ⟨b182, 0, none⟩), .int .i64 ((rd l1 x157).X), .pointer (some ⟨b182, 1, none⟩), .int .i64 ((rd l1 x157).Y), .int .i64 (mx ((rd l1 x157).X) ((rd l1 x157).Y)), .bool false, .bool false, .pointer (some ⟨b182, 0, none⟩), .int .i64 ((rd l1 x157).X), .pointer (some ⟨b182, 1, none⟩), .int .i64 ((rd l1 x157).Y), .int .i64 (mn ((rd l1 x157).X) ((rd l1 x157).Y)), .bool (decide ((mn ((rd l1 x157).X) ((rd l1 x157).Y)) < (-300))), .bool (decide ((mn ((rd l1 x157).X) ((rd l1 x157).Y)) < (-300))), .bool (decide ((mn ((rd l1 x157).X) ((rd l1 x157).Y)) < (-300))), (j154 20), (j154 21), (j154 22), (j154 23), (j154 24), (j154 25), (j154 26), (j154 27), (j154 28), (j154 29), (j154 30), (j154 31), (j154 32), (j154 33), (j154 34), (j154 35), (j154 36), (j154 37), (j154 38), (j154 39), (j154 40), (j154 41), (j154 42), (j154 43), (j154 44), (j154 45), (j154 46), (j154 47), (j154 48), (j154 49), (j154 50), (j154 51), (j154 52), (j154 53), (j154 54), (j154 55), (j154 56), undef, undef, undef, undef, undef, undef, undef, undef, undef, undef, undef, undef, undef, undef, undef, undef, undef, undef], []⟩) (by kernel_rfl) ?_
      have hq_ := ite_some h; clear h; rcases hq_ with ⟨c211, h⟩ | ⟨c211, h⟩
      · have c211 : (mn ((rd l1 x157).X) ((rd l1 x157).Y)) < (-300) := c211
        refine seqRwI 30 (x := (decide ((mn ((rd l1 x157).X) ((rd l1 x157).Y)) < (-300)))) (v := true) (by kernel_rfl) (decide_eq_true c211) ?_
        refine seqRwI 31 (x := (decide ((mn ((rd l1 x157).X) ((rd l1 x157).Y)) < (-300)))) (v := true) (by kernel_rfl) (decide_eq_true c211) ?_
        refine seqRwI 32 (x := (decide ((mn ((rd l1 x157).X) ((rd l1 x157).Y)) < (-300)))) (v := true) (by kernel_rfl) (decide_eq_true c211) ?_
        refine seqS5 (a' := ⟨#[.slice (some ⟨b180, of181, none⟩) l1.length c3, undef, .pointer (some ⟨b7, 0, none⟩), .pointer (some ⟨b11, 0, none⟩), .pointer (some ⟨b15, 0, none⟩), .pointer (some ⟨b21, 0, none⟩), .int .i64 sx155, .int .i64 sy156, undef, .pointer (some ⟨b182, 0, none⟩), undef, .slice (some ⟨b180, of181, none⟩) l1.length c3, .int .i64 (l1.length : Int), .int .i64 x157, .bool true, .pointer (some ⟨b180, of181 + (x157 : Int).toNat * 3, none⟩), .agg #[.int .i64 ((rd l1 x157).X), .int .i64 ((rd l1 x157).Y), .int .i64 ((rd l1 x157).Light)], .bool true, .pointer (some ⟨b182, 0, none⟩), .int .i64 ((rd l1 x157).X), .pointer (some ⟨b182, 1, none⟩), .int .i64 ((rd l1 x157).Y), .int .i64 (mx ((rd l1 x157).X) ((rd l1 x157).Y)), .bool false, .bool false, .pointer (some ⟨b182, 0, none⟩), .int .i64 ((rd l1 x157).X), .pointer (some ⟨b182, 1, none⟩), .int .i64 ((rd l1 x157).Y), .int .i64 (mn ((rd l1 x157).X) ((rd l1 x157).Y)), .bool true, .bool true, .bool true, undef, undef, undef, .bool true, (j154 24), (j154 25), (j154 26), (j154 27), (j154 28), (j154 29), (j154 30), (j154 31), (j154 32), (j154 33), (j154 34), (j154 35), (j154 36), (j154 37), (j154 38), (j154 39), (j154 40), (j154 41), (j154 42), (j154 43), (j154 44), (j154 45), (j154 46), (j154 47), (j154 48), (j154 49), (j154 50), (j154 51), (j154 52), (j154 53), (j154 54), (j154 55), (j154 56), undef, undef, undef, undef, undef, undef, undef, undef, undef, undef, undef, undef, undef, undef, undef, undef, undef, undef], []⟩) (by kernel_rfl) ?_
        refine wpList_nil ?_
        refine hK198 _ _ ?_
        refine condT (by kernel_rfl) ?_
        refine wp_seq_k (fun K212 hK213 => ?_)
        refine wp_region_lit ?_
        have HS214 := HS187.u4
        refine seqL2 (by kernel_rfl) ?_
        refine seqK rfl (does_store (n := 2) (vs := [.int .i64 0, .int .i64 0]) (cs' := #[.int .i64 0, .int .i64 0]) rfl (by kernel_rfl) (by kernel_rfl : _ = Value.pointer (some ⟨b7, 0, none⟩)) (by kernel_rfl : _ = Value.agg #[.int .i64 0, .int .i64 0]) rfl rfl (by intro u_ hu_; simp only [List.mem_cons, List.not_mem_nil, or_false] at hu_; rcases hu_ with rfl | rfl <;> rfl) HS214 (Nat.le_of_ble_eq_true rfl) (by kernel_rfl) ?_)
        intro W215 HS216
        have HS217 := HS216.u4
        refine seqK rfl (does_store (n := 2) (vs := [.int .i64 0, .int .i64 0]) (cs' := #[.int .i64 0, .int .i64 0]) rfl (by kernel_rfl) (by kernel_rfl : _ = Value.pointer (some ⟨b11, 0, none⟩)) (by kernel_rfl : _ = Value.agg #[.int .i64 0, .int .i64 0]) rfl rfl (by intro u_ hu_; simp only [List.mem_cons, List.not_mem_nil, or_false] at hu_; rcases hu_ with rfl | rfl <;> rfl) HS217 (Nat.le_of_ble_eq_true rfl) (by kernel_rfl) ?_)
        intro W218 HS219
        have HS220 := HS219.u4
        refine seqK rfl (does_store (n := 1) (vs := [.int .i64 4]) (cs' := #[.int .i64 4]) rfl (by kernel_rfl) (by kernel_rfl : _ = Value.pointer (some ⟨b15, 0, none⟩)) (by kernel_rfl : _ = Value.int .i64 4) rfl rfl (by intro u_ hu_; simp only [List.mem_cons, List.not_mem_nil, or_false] at hu_; subst hu_; rfl) HS220 (Nat.le_of_ble_eq_true rfl) (by kernel_rfl) ?_)
        intro W221 HS222
        refine wpList_nil ?_
        refine hK213 _ _ ?_
        refine wp_ret ?_
        refine hr193 _ _ ?_
        refine hr170 _ _ ?_
        refine hr32 _ _ ?_
        refine hret _ _ ?_
        refine ends (v := Value.tuple #[.agg #[.int .i64 0, .int .i64 0], .agg #[.int .i64 0, .int .i64 0], .int .i64 4]) (results3 (q1 := .cell 2 41) (q2 := .cell 3 41) (q3 := .cell 4 24) (by kernel_rfl) (resN (n := 2) (cs := [.int .i64 0, .int .i64 0]) (by kernel_rfl : _ = Value.pointer (some ⟨b7, 0, none⟩)) Try.underlying41 rfl (by kernel_rfl) rfl (HS222.u2.cells 0 2 _ rfl)) (resN (n := 2) (cs := [.int .i64 0, .int .i64 0]) (by kernel_rfl : _ = Value.pointer (some ⟨b11, 0, none⟩)) Try.underlying41 rfl (by kernel_rfl) rfl (HS222.u1.cells 0 2 _ rfl)) (resC (by kernel_rfl : _ = Value.pointer (some ⟨b15, 0, none⟩)) Try.underlying24 rfl (HS222.cell 0))) (by kernel_rfl) ?_
        have HS366 := HS222.drop
        have HS367 := HS366.drop
        have HS368 := HS367.drop
        have HS369 := HS368.drop
        have HS370 := HS369.drop
        replace h := JR268 _ h
        injection h with h
        injection h with h0_ h
        injection h with h1_ h
        subst h0_ h1_ h
        exact ⟨f150, rfl, L151, HS370⟩
      · have c211 : ¬ ((mn ((rd l1 x157).X) ((rd l1 x157).Y)) < (-300)) := c211
        refine seqRwI 30 (x := (decide ((mn ((rd l1 x157).X) ((rd l1 x157).Y)) < (-300)))) (v := false) (by kernel_rfl) (decide_eq_false c211) ?_
        refine seqRwI 31 (x := (decide ((mn ((rd l1 x157).X) ((rd l1 x157).Y)) < (-300)))) (v := false) (by kernel_rfl) (decide_eq_false c211) ?_
        refine seqRwI 32 (x := (decide ((mn ((rd l1 x157).X) ((rd l1 x157).Y)) < (-300)))) (v := false) (by kernel_rfl) (decide_eq_false c211) ?_
        refine seqL1 (by kernel_rfl) ?_
        refine seqG (by kernel_rfl) (does_run (run_load rfl Try.underlying30 rfl (by kernel_rfl : _ = Value.pointer (some ⟨b182, 2, none⟩)) (HS187.cell 2)) ?_)
        refine seqS3 (a' := ⟨#[.slice (some ⟨b180, of181, none⟩) l1.length c3, undef, .pointer (some ⟨b7, 0, none⟩), .pointer (some ⟨b11, 0, none⟩), .pointer (some ⟨b15, 0, none⟩), .pointer (some ⟨b21, 0, none⟩), .int .i64 sx155, .int .i64 sy156, undef, .pointer (some ⟨b182, 0, none⟩), undef, .slice (some ⟨b180, of181, none⟩) l1.length c3, .int .i64 (l1.length : Int), .int .i64 x157, .bool true, .pointer (some ⟨b180, of181 + (x157 : Int).toNat * 3, none⟩), .agg #[.int .i64 ((rd l1 x157).X), .int .i64 ((rd l1 x157).Y), .int .i64 ((rd l1 x157).Light)], .bool (decide (((rd l1 x157).Light) < 0)), .pointer (some ⟨b182, 0, none⟩), .int .i64 ((rd l1 x157).X), .pointer (some ⟨b182, 1, none⟩), .int .i64 ((rd l1 x157).Y), .int .i64 (mx ((rd l1 x157).X) ((rd l1 x157).Y)), .bool false, .bool false, .pointer (some ⟨b182, 0, none⟩), .int .i64 ((rd l1 x157).X), .pointer (some ⟨b182, 1, none⟩), .int .i64 ((rd l1 x157).Y), .int .i64 (mn ((rd l1 x157).X) ((rd l1 x157).Y)), .bool false, .bool false, .bool false, .pointer (some ⟨b182, 2, none⟩), .int .i64 ((rd l1 x157).Light), .bool (decide (((rd l1 x157).Light) < 0)), .bool (decide (((rd l1 x157).Light) < 0)), (j154 24), (j154 25), (j154 26), (j154 27), (j154 28), (j154 29), (j154 30), (j154 31), (j154 32), (j154 33), (j154 34), (j154 35), (j154 36), (j154 37), (j154 38), (j154 39), (j154 40), (j154 41), (j154 42), (j154 43), (j154 44), (j154 45), (j154 46), (j154 47), (j154 48), (j154 49), (j154 50), (j154 51), (j154 52), (j154 53), (j154 54), (j154 55), (j154 56), undef, undef, undef, undef, undef, undef, undef, undef, undef, undef, undef, undef, undef, undef, undef, undef, undef, undef], []⟩) (by kernel_rfl) ?_
        refine wpList_nil ?_
        refine hK198 _ _ ?_
        have hq_ := ite_some h; clear h; rcases hq_ with ⟨c224, h⟩ | ⟨c224, h⟩
        · have c224 : ((rd l1 x157).Light) < 0 := c224
          refine wpRwI 17 (x := (decide (((rd l1 x157).Light) < 0))) (v := true) (by kernel_rfl) (decide_eq_true c224) ?_
          refine wpRwI 35 (x := (decide (((rd l1 x157).Light) < 0))) (v := true) (by kernel_rfl) (decide_eq_true c224) ?_
          refine wpRwI 36 (x := (decide (((rd l1 x157).Light) < 0))) (v := true) (by kernel_rfl) (decide_eq_true c224) ?_
          refine condT (by kernel_rfl) ?_
          refine wp_seq_k (fun K225 hK226 => ?_)
          refine wp_region_lit ?_
          have HS227 := HS187.u4
          refine seqL2 (by kernel_rfl) ?_
          refine seqK rfl (does_store (n := 2) (vs := [.int .i64 0, .int .i64 0]) (cs' := #[.int .i64 0, .int .i64 0]) rfl (by kernel_rfl) (by kernel_rfl : _ = Value.pointer (some ⟨b7, 0, none⟩)) (by kernel_rfl : _ = Value.agg #[.int .i64 0, .int .i64 0]) rfl rfl (by intro u_ hu_; simp only [List.mem_cons, List.not_mem_nil, or_false] at hu_; rcases hu_ with rfl | rfl <;> rfl) HS227 (Nat.le_of_ble_eq_true rfl) (by kernel_rfl) ?_)
          intro W228 HS229
          have HS230 := HS229.u4
          refine seqK rfl (does_store (n := 2) (vs := [.int .i64 0, .int .i64 0]) (cs' := #[.int .i64 0, .int .i64 0]) rfl (by kernel_rfl) (by kernel_rfl : _ = Value.pointer (some ⟨b11, 0, none⟩)) (by kernel_rfl : _ = Value.agg #[.int .i64 0, .int .i64 0]) rfl rfl (by intro u_ hu_; simp only [List.mem_cons, List.not_mem_nil, or_false] at hu_; rcases hu_ with rfl | rfl <;> rfl) HS230 (Nat.le_of_ble_eq_true rfl) (by kernel_rfl) ?_)
          intro W231 HS232
          have HS233 := HS232.u4
          refine seqK rfl (does_store (n := 1) (vs := [.int .i64 4]) (cs' := #[.int .i64 4]) rfl (by kernel_rfl) (by kernel_rfl : _ = Value.pointer (some ⟨b15, 0, none⟩)) (by kernel_rfl : _ = Value.int .i64 4) rfl rfl (by intro u_ hu_; simp only [List.mem_cons, List.not_mem_nil, or_false] at hu_; subst hu_; rfl) HS233 (Nat.le_of_ble_eq_true rfl) (by kernel_rfl) ?_)
          intro W234 HS235
          refine wpList_nil ?_
          refine hK226 _ _ ?_
          refine wp_ret ?_
          refine hr193 _ _ ?_
          refine hr170 _ _ ?_
          refine hr32 _ _ ?_
          refine hret _ _ ?_
          refine ends (v := Value.tuple #[.agg #[.int .i64 0, .int .i64 0], .agg #[.int .i64 0, .int .i64 0], .int .i64 4]) (results3 (q1 := .cell 2 41) (q2 := .cell 3 41) (q3 := .cell 4 24) (by kernel_rfl) (resN (n := 2) (cs := [.int .i64 0, .int .i64 0]) (by kernel_rfl : _ = Value.pointer (some ⟨b7, 0, none⟩)) Try.underlying41 rfl (by kernel_rfl) rfl (HS235.u2.cells 0 2 _ rfl)) (resN (n := 2) (cs := [.int .i64 0, .int .i64 0]) (by kernel_rfl : _ = Value.pointer (some ⟨b11, 0, none⟩)) Try.underlying41 rfl (by kernel_rfl) rfl (HS235.u1.cells 0 2 _ rfl)) (resC (by kernel_rfl : _ = Value.pointer (some ⟨b15, 0, none⟩)) Try.underlying24 rfl (HS235.cell 0))) (by kernel_rfl) ?_
          have HS371 := HS235.drop
          have HS372 := HS371.drop
          have HS373 := HS372.drop
          have HS374 := HS373.drop
          have HS375 := HS374.drop
          replace h := JR268 _ h
          injection h with h
          injection h with h0_ h
          injection h with h1_ h
          subst h0_ h1_ h
          exact ⟨f150, rfl, L151, HS375⟩
        · have c224 : ¬ (((rd l1 x157).Light) < 0) := c224
          refine wpRwI 17 (x := (decide (((rd l1 x157).Light) < 0))) (v := false) (by kernel_rfl) (decide_eq_false c224) ?_
          refine wpRwI 35 (x := (decide (((rd l1 x157).Light) < 0))) (v := false) (by kernel_rfl) (decide_eq_false c224) ?_
          refine wpRwI 36 (x := (decide (((rd l1 x157).Light) < 0))) (v := false) (by kernel_rfl) (decide_eq_false c224) ?_
          refine condF (by kernel_rfl) ?_
          refine wp_seq_k (fun K236 hK237 => ?_)
          refine wp_region_lit ?_
          refine seqL1 (by kernel_rfl) ?_
          refine seqK rfl (does_run (run_load rfl Try.underlying30 rfl (by kernel_rfl : _ = Value.pointer (some ⟨b182, 2, none⟩)) (HS187.cell 2)) ?_)
          refine seqK rfl (does_run (run_load rfl Try.underlying2 rfl (by kernel_rfl : _ = Value.pointer (some ⟨b21, 0, none⟩)) (HS187.u1.cell 0)) ?_)
          refine seqS3 (a' := ⟨#[.slice (some ⟨b180, of181, none⟩) l1.length c3, undef, .pointer (some ⟨b7, 0, none⟩), .pointer (some ⟨b11, 0, none⟩), .pointer (some ⟨b15, 0, none⟩), .pointer (some ⟨b21, 0, none⟩), .int .i64 sx155, .int .i64 sy156, undef, .pointer (some ⟨b182, 0, none⟩), undef, .slice (some ⟨b180, of181, none⟩) l1.length c3, .int .i64 (l1.length : Int), .int .i64 x157, .bool true, .pointer (some ⟨b180, of181 + (x157 : Int).toNat * 3, none⟩), .agg #[.int .i64 ((rd l1 x157).X), .int .i64 ((rd l1 x157).Y), .int .i64 ((rd l1 x157).Light)], .bool false, .pointer (some ⟨b182, 0, none⟩), .int .i64 ((rd l1 x157).X), .pointer (some ⟨b182, 1, none⟩), .int .i64 ((rd l1 x157).Y), .int .i64 (mx ((rd l1 x157).X) ((rd l1 x157).Y)), .bool false, .bool false, .pointer (some ⟨b182, 0, none⟩), .int .i64 ((rd l1 x157).X), .pointer (some ⟨b182, 1, none⟩), .int .i64 ((rd l1 x157).Y), .int .i64 (mn ((rd l1 x157).X) ((rd l1 x157).Y)), .bool false, .bool false, .bool false, .pointer (some ⟨b182, 2, none⟩), .int .i64 ((rd l1 x157).Light), .bool false, .bool false, (j154 24), (j154 25), .bool (decide (((rd l1 x157).Light) > (w64 (281474976710656 - x158)))), .pointer (some ⟨b182, 2, none⟩), .int .i64 ((rd l1 x157).Light), .int .i64 x158, .int .i64 (w64 (281474976710656 - x158)), .bool (decide (((rd l1 x157).Light) > (w64 (281474976710656 - x158)))), (j154 32), (j154 33), (j154 34), (j154 35), (j154 36), (j154 37), (j154 38), (j154 39), (j154 40), (j154 41), (j154 42), (j154 43), (j154 44), (j154 45), (j154 46), (j154 47), (j154 48), (j154 49), (j154 50), (j154 51), (j154 52), (j154 53), (j154 54), (j154 55), (j154 56), undef, undef, undef, undef, undef, undef, undef, undef, undef, undef, undef, undef, undef, undef, undef, undef, undef, undef], []⟩) (by kernel_rfl) ?_
          refine wpList_nil ?_
          refine hK237 _ _ ?_
          have hq_ := ite_some h; clear h; rcases hq_ with ⟨c239, h⟩ | ⟨c239, h⟩
          · have c239 : ((rd l1 x157).Light) > (w64 (281474976710656 - x158)) := c239
            refine wpRwI 39 (x := (decide (((rd l1 x157).Light) > (w64 (281474976710656 - x158))))) (v := true) (by kernel_rfl) (decide_eq_true c239) ?_
            refine wpRwI 44 (x := (decide (((rd l1 x157).Light) > (w64 (281474976710656 - x158))))) (v := true) (by kernel_rfl) (decide_eq_true c239) ?_
            refine condT (by kernel_rfl) ?_
            refine wp_seq_k (fun K240 hK241 => ?_)
            refine wp_region_lit ?_
            have HS242 := HS187.u4
            refine seqL2 (by kernel_rfl) ?_
            refine seqK rfl (does_store (n := 2) (vs := [.int .i64 0, .int .i64 0]) (cs' := #[.int .i64 0, .int .i64 0]) rfl (by kernel_rfl) (by kernel_rfl : _ = Value.pointer (some ⟨b7, 0, none⟩)) (by kernel_rfl : _ = Value.agg #[.int .i64 0, .int .i64 0]) rfl rfl (by intro u_ hu_; simp only [List.mem_cons, List.not_mem_nil, or_false] at hu_; rcases hu_ with rfl | rfl <;> rfl) HS242 (Nat.le_of_ble_eq_true rfl) (by kernel_rfl) ?_)
            intro W243 HS244
            have HS245 := HS244.u4
            refine seqK rfl (does_store (n := 2) (vs := [.int .i64 0, .int .i64 0]) (cs' := #[.int .i64 0, .int .i64 0]) rfl (by kernel_rfl) (by kernel_rfl : _ = Value.pointer (some ⟨b11, 0, none⟩)) (by kernel_rfl : _ = Value.agg #[.int .i64 0, .int .i64 0]) rfl rfl (by intro u_ hu_; simp only [List.mem_cons, List.not_mem_nil, or_false] at hu_; rcases hu_ with rfl | rfl <;> rfl) HS245 (Nat.le_of_ble_eq_true rfl) (by kernel_rfl) ?_)
            intro W246 HS247
            have HS248 := HS247.u4
            refine seqK rfl (does_store (n := 1) (vs := [.int .i64 2]) (cs' := #[.int .i64 2]) rfl (by kernel_rfl) (by kernel_rfl : _ = Value.pointer (some ⟨b15, 0, none⟩)) (by kernel_rfl : _ = Value.int .i64 2) rfl rfl (by intro u_ hu_; simp only [List.mem_cons, List.not_mem_nil, or_false] at hu_; subst hu_; rfl) HS248 (Nat.le_of_ble_eq_true rfl) (by kernel_rfl) ?_)
            intro W249 HS250
            refine wpList_nil ?_
            refine hK241 _ _ ?_
            refine wp_ret ?_
            refine hr193 _ _ ?_
            refine hr170 _ _ ?_
            refine hr32 _ _ ?_
            refine hret _ _ ?_
            refine ends (v := Value.tuple #[.agg #[.int .i64 0, .int .i64 0], .agg #[.int .i64 0, .int .i64 0], .int .i64 2]) (results3 (q1 := .cell 2 41) (q2 := .cell 3 41) (q3 := .cell 4 24) (by kernel_rfl) (resN (n := 2) (cs := [.int .i64 0, .int .i64 0]) (by kernel_rfl : _ = Value.pointer (some ⟨b7, 0, none⟩)) Try.underlying41 rfl (by kernel_rfl) rfl (HS250.u2.cells 0 2 _ rfl)) (resN (n := 2) (cs := [.int .i64 0, .int .i64 0]) (by kernel_rfl : _ = Value.pointer (some ⟨b11, 0, none⟩)) Try.underlying41 rfl (by kernel_rfl) rfl (HS250.u1.cells 0 2 _ rfl)) (resC (by kernel_rfl : _ = Value.pointer (some ⟨b15, 0, none⟩)) Try.underlying24 rfl (HS250.cell 0))) (by kernel_rfl) ?_
            have HS376 := HS250.drop
            have HS377 := HS376.drop
            have HS378 := HS377.drop
            have HS379 := HS378.drop
            have HS380 := HS379.drop
            replace h := JR268 _ h
            injection h with h
            injection h with h0_ h
            injection h with h1_ h
            subst h0_ h1_ h
            exact ⟨f150, rfl, L151, HS380⟩
          · have c239 : ¬ (((rd l1 x157).Light) > (w64 (281474976710656 - x158))) := c239
            refine wpRwI 39 (x := (decide (((rd l1 x157).Light) > (w64 (281474976710656 - x158))))) (v := false) (by kernel_rfl) (decide_eq_false c239) ?_
            refine wpRwI 44 (x := (decide (((rd l1 x157).Light) > (w64 (281474976710656 - x158))))) (v := false) (by kernel_rfl) (decide_eq_false c239) ?_
            refine condF (by kernel_rfl) ?_
            refine wp_skip ?_
            refine hn192 _ _ ?_
            refine hK189 _ _ ?_
            refine wp_seq_k (fun K251 hK252 => ?_)
            refine wp_region_lit ?_
            refine seqK rfl (does_run (run_load rfl Try.underlying2 rfl (by kernel_rfl : _ = Value.pointer (some ⟨b21, 0, none⟩)) (HS187.u1.cell 0)) ?_)
            refine seqL1 (by kernel_rfl) ?_
            refine seqK rfl (does_run (run_load rfl Try.underlying30 rfl (by kernel_rfl : _ = Value.pointer (some ⟨b182, 2, none⟩)) (HS187.cell 2)) ?_)
            have HS253 := HS187.u1
            refine seqL1 (by kernel_rfl) ?_
            refine seqK rfl (does_store (n := 1) (vs := [.int .i64 (w64 (x158 + ((rd l1 x157).Light)))]) (cs' := #[.int .i64 (w64 (x158 + ((rd l1 x157).Light)))]) rfl (by kernel_rfl) (by kernel_rfl : _ = Value.pointer (some ⟨b21, 0, none⟩)) (by kernel_rfl : _ = Value.int .i64 (w64 (x158 + ((rd l1 x157).Light)))) rfl rfl (by intro u_ hu_; simp only [List.mem_cons, List.not_mem_nil, or_false] at hu_; subst hu_; rfl) HS253 (Nat.le_of_ble_eq_true rfl) (by kernel_rfl) ?_)
            intro W254 HS255
            refine wpList_nil ?_
            refine hK252 _ _ ?_
            refine wp_seq_k (fun K256 hK257 => ?_)
            refine wp_region_lit ?_
            refine seqL2 (by kernel_rfl) ?_
            refine seqK rfl (does_run (run_load rfl Try.underlying30 rfl (by kernel_rfl : _ = Value.pointer (some ⟨b182, 2, none⟩)) (HS255.u1.cell 2)) ?_)
            refine seqL1 (by kernel_rfl) ?_
            refine seqK rfl (does_run (run_load rfl Try.underlying3 rfl (by kernel_rfl : _ = Value.pointer (some ⟨b182, 0, none⟩)) (HS255.u1.cell 0)) ?_)
            refine seqS5 (a' := ⟨#[.slice (some ⟨b180, of181, none⟩) l1.length c3, undef, .pointer (some ⟨b7, 0, none⟩), .pointer (some ⟨b11, 0, none⟩), .pointer (some ⟨b15, 0, none⟩), .pointer (some ⟨b21, 0, none⟩), .int .i64 (w64 (sx155 + (w64 (((rd l1 x157).Light) * (w64 ((w64 (2 * ((rd l1 x157).X))) + 1)))))), .int .i64 sy156, undef, .pointer (some ⟨b182, 0, none⟩), undef, .slice (some ⟨b180, of181, none⟩) l1.length c3, .int .i64 (l1.length : Int), .int .i64 x157, .bool true, .pointer (some ⟨b180, of181 + (x157 : Int).toNat * 3, none⟩), .agg #[.int .i64 ((rd l1 x157).X), .int .i64 ((rd l1 x157).Y), .int .i64 ((rd l1 x157).Light)], .bool false, .pointer (some ⟨b182, 0, none⟩), .int .i64 ((rd l1 x157).X), .pointer (some ⟨b182, 1, none⟩), .int .i64 ((rd l1 x157).Y), .int .i64 (mx ((rd l1 x157).X) ((rd l1 x157).Y)), .bool false, .bool false, .pointer (some ⟨b182, 0, none⟩), .int .i64 ((rd l1 x157).X), .pointer (some ⟨b182, 1, none⟩), .int .i64 ((rd l1 x157).Y), .int .i64 (mn ((rd l1 x157).X) ((rd l1 x157).Y)), .bool false, .bool false, .bool false, .pointer (some ⟨b182, 2, none⟩), .int .i64 ((rd l1 x157).Light), .bool false, .bool false, (j154 24), (j154 25), .bool false, .pointer (some ⟨b182, 2, none⟩), .int .i64 ((rd l1 x157).Light), .int .i64 x158, .int .i64 (w64 (281474976710656 - x158)), .bool false, (j154 32), (j154 33), .int .i64 x158, .pointer (some ⟨b182, 2, none⟩), .int .i64 ((rd l1 x157).Light), .int .i64 (w64 (x158 + ((rd l1 x157).Light))), .int .i64 sx155, .pointer (some ⟨b182, 2, none⟩), .int .i64 ((rd l1 x157).Light), .pointer (some ⟨b182, 0, none⟩), .int .i64 ((rd l1 x157).X), .int .i64 (w64 (2 * ((rd l1 x157).X))), .int .i64 (w64 ((w64 (2 * ((rd l1 x157).X))) + 1)), .int .i64 (w64 (((rd l1 x157).Light) * (w64 ((w64 (2 * ((rd l1 x157).X))) + 1)))), .int .i64 (w64 (sx155 + (w64 (((rd l1 x157).Light) * (w64 ((w64 (2 * ((rd l1 x157).X))) + 1)))))), (j154 47), (j154 48), (j154 49), (j154 50), (j154 51), (j154 52), (j154 53), (j154 54), (j154 55), (j154 56), undef, undef, undef, undef, undef, undef, undef, undef, undef, undef, undef, undef, undef, undef, undef, undef, undef, undef], []⟩) (by kernel_rfl) ?_
            refine wpList_nil ?_
            refine hK257 _ _ ?_
            refine wp_region_lit ?_
            refine seqL2 (by kernel_rfl) ?_
            refine seqK rfl (does_run (run_load rfl Try.underlying30 rfl (by kernel_rfl : _ = Value.pointer (some ⟨b182, 2, none⟩)) (HS255.u1.cell 2)) ?_)
            refine seqL1 (by kernel_rfl) ?_
            refine seqK rfl (does_run (run_load rfl Try.underlying3 rfl (by kernel_rfl : _ = Value.pointer (some ⟨b182, 1, none⟩)) (HS255.u1.cell 1)) ?_)
            refine seqS5 (a' := ⟨#[.slice (some ⟨b180, of181, none⟩) l1.length c3, undef, .pointer (some ⟨b7, 0, none⟩), .pointer (some ⟨b11, 0, none⟩), .pointer (some ⟨b15, 0, none⟩), .pointer (some ⟨b21, 0, none⟩), .int .i64 (w64 (sx155 + (w64 (((rd l1 x157).Light) * (w64 ((w64 (2 * ((rd l1 x157).X))) + 1)))))), .int .i64 (w64 (sy156 + (w64 (((rd l1 x157).Light) * (w64 ((w64 (2 * ((rd l1 x157).Y))) + 1)))))), undef, .pointer (some ⟨b182, 0, none⟩), undef, .slice (some ⟨b180, of181, none⟩) l1.length c3, .int .i64 (l1.length : Int), .int .i64 x157, .bool true, .pointer (some ⟨b180, of181 + (x157 : Int).toNat * 3, none⟩), .agg #[.int .i64 ((rd l1 x157).X), .int .i64 ((rd l1 x157).Y), .int .i64 ((rd l1 x157).Light)], .bool false, .pointer (some ⟨b182, 0, none⟩), .int .i64 ((rd l1 x157).X), .pointer (some ⟨b182, 1, none⟩), .int .i64 ((rd l1 x157).Y), .int .i64 (mx ((rd l1 x157).X) ((rd l1 x157).Y)), .bool false, .bool false, .pointer (some ⟨b182, 0, none⟩), .int .i64 ((rd l1 x157).X), .pointer (some ⟨b182, 1, none⟩), .int .i64 ((rd l1 x157).Y), .int .i64 (mn ((rd l1 x157).X) ((rd l1 x157).Y)), .bool false, .bool false, .bool false, .pointer (some ⟨b182, 2, none⟩), .int .i64 ((rd l1 x157).Light), .bool false, .bool false, (j154 24), (j154 25), .bool false, .pointer (some ⟨b182, 2, none⟩), .int .i64 ((rd l1 x157).Light), .int .i64 x158, .int .i64 (w64 (281474976710656 - x158)), .bool false, (j154 32), (j154 33), .int .i64 x158, .pointer (some ⟨b182, 2, none⟩), .int .i64 ((rd l1 x157).Light), .int .i64 (w64 (x158 + ((rd l1 x157).Light))), .int .i64 sx155, .pointer (some ⟨b182, 2, none⟩), .int .i64 ((rd l1 x157).Light), .pointer (some ⟨b182, 0, none⟩), .int .i64 ((rd l1 x157).X), .int .i64 (w64 (2 * ((rd l1 x157).X))), .int .i64 (w64 ((w64 (2 * ((rd l1 x157).X))) + 1)), .int .i64 (w64 (((rd l1 x157).Light) * (w64 ((w64 (2 * ((rd l1 x157).X))) + 1)))), .int .i64 (w64 (sx155 + (w64 (((rd l1 x157).Light) * (w64 ((w64 (2 * ((rd l1 x157).X))) + 1)))))), .int .i64 sy156, .pointer (some ⟨b182, 2, none⟩), .int .i64 ((rd l1 x157).Light), .pointer (some ⟨b182, 1, none⟩), .int .i64 ((rd l1 x157).Y), .int .i64 (w64 (2 * ((rd l1 x157).Y))), .int .i64 (w64 ((w64 (2 * ((rd l1 x157).Y))) + 1)), .int .i64 (w64 (((rd l1 x157).Light) * (w64 ((w64 (2 * ((rd l1 x157).Y))) + 1)))), .int .i64 (w64 (sy156 + (w64 (((rd l1 x157).Light) * (w64 ((w64 (2 * ((rd l1 x157).Y))) + 1)))))), (j154 56), undef, undef, undef, undef, undef, undef, undef, undef, undef, undef, undef, undef, undef, undef, undef, undef, undef, undef], []⟩) (by kernel_rfl) ?_
            refine wpList_nil ?_
            refine hn169 _ _ ?_
            refine hK166 _ _ ?_
            refine wp_region_lit ?_
            refine seqS2 (a' := ⟨#[.slice (some ⟨b180, of181, none⟩) l1.length c3, undef, .pointer (some ⟨b7, 0, none⟩), .pointer (some ⟨b11, 0, none⟩), .pointer (some ⟨b15, 0, none⟩), .pointer (some ⟨b21, 0, none⟩), .int .i64 (w64 (sx155 + (w64 (((rd l1 x157).Light) * (w64 ((w64 (2 * ((rd l1 x157).X))) + 1)))))), .int .i64 (w64 (sy156 + (w64 (((rd l1 x157).Light) * (w64 ((w64 (2 * ((rd l1 x157).Y))) + 1)))))), undef, .pointer (some ⟨b182, 0, none⟩), undef, .slice (some ⟨b180, of181, none⟩) l1.length c3, .int .i64 (l1.length : Int), .int .i64 (w64 (x157 + 1)), .bool true, .pointer (some ⟨b180, of181 + (x157 : Int).toNat * 3, none⟩), .agg #[.int .i64 ((rd l1 x157).X), .int .i64 ((rd l1 x157).Y), .int .i64 ((rd l1 x157).Light)], .bool false, .pointer (some ⟨b182, 0, none⟩), .int .i64 ((rd l1 x157).X), .pointer (some ⟨b182, 1, none⟩), .int .i64 ((rd l1 x157).Y), .int .i64 (mx ((rd l1 x157).X) ((rd l1 x157).Y)), .bool false, .bool false, .pointer (some ⟨b182, 0, none⟩), .int .i64 ((rd l1 x157).X), .pointer (some ⟨b182, 1, none⟩), .int .i64 ((rd l1 x157).Y), .int .i64 (mn ((rd l1 x157).X) ((rd l1 x157).Y)), .bool false, .bool false, .bool false, .pointer (some ⟨b182, 2, none⟩), .int .i64 ((rd l1 x157).Light), .bool false, .bool false, (j154 24), (j154 25), .bool false, .pointer (some ⟨b182, 2, none⟩), .int .i64 ((rd l1 x157).Light), .int .i64 x158, .int .i64 (w64 (281474976710656 - x158)), .bool false, (j154 32), (j154 33), .int .i64 x158, .pointer (some ⟨b182, 2, none⟩), .int .i64 ((rd l1 x157).Light), .int .i64 (w64 (x158 + ((rd l1 x157).Light))), .int .i64 sx155, .pointer (some ⟨b182, 2, none⟩), .int .i64 ((rd l1 x157).Light), .pointer (some ⟨b182, 0, none⟩), .int .i64 ((rd l1 x157).X), .int .i64 (w64 (2 * ((rd l1 x157).X))), .int .i64 (w64 ((w64 (2 * ((rd l1 x157).X))) + 1)), .int .i64 (w64 (((rd l1 x157).Light) * (w64 ((w64 (2 * ((rd l1 x157).X))) + 1)))), .int .i64 (w64 (sx155 + (w64 (((rd l1 x157).Light) * (w64 ((w64 (2 * ((rd l1 x157).X))) + 1)))))), .int .i64 sy156, .pointer (some ⟨b182, 2, none⟩), .int .i64 ((rd l1 x157).Light), .pointer (some ⟨b182, 1, none⟩), .int .i64 ((rd l1 x157).Y), .int .i64 (w64 (2 * ((rd l1 x157).Y))), .int .i64 (w64 ((w64 (2 * ((rd l1 x157).Y))) + 1)), .int .i64 (w64 (((rd l1 x157).Light) * (w64 ((w64 (2 * ((rd l1 x157).Y))) + 1)))), .int .i64 (w64 (sy156 + (w64 (((rd l1 x157).Light) * (w64 ((w64 (2 * ((rd l1 x157).Y))) + 1)))))), .int .i64 (w64 (x157 + 1)), undef, undef, undef, undef, undef, undef, undef, undef, undef, undef, undef, undef, undef, undef, undef, undef, undef, undef], []⟩) (by kernel_rfl) ?_
            refine wpList_nil ?_
            refine hK148 n149 _ _ (Nat.lt_succ_self _) ?_
            have HS270 := HS255.u4
            have HS271 := HS270.u4
            have HS272 := HS271.u4
            have HS273 := HS272.u3
            have HS274 := HS273.u4
            have HS275 := HS274.drop
            exact ⟨f150, (w64 (sx155 + (w64 (((rd l1 x157).Light) * (w64 ((w64 (2 * ((rd l1 x157).X))) + 1)))))), (w64 (sy156 + (w64 (((rd l1 x157).Light) * (w64 ((w64 (2 * ((rd l1 x157).Y))) + 1)))))), (w64 (x157 + 1)), (w64 (x158 + ((rd l1 x157).Light))), (fun i_ => [Value.pointer (some ⟨b182, 0, none⟩), Value.bool true, Value.pointer (some ⟨b180, of181 + (x157 : Int).toNat * 3, none⟩), Value.agg #[.int .i64 ((rd l1 x157).X), .int .i64 ((rd l1 x157).Y), .int .i64 ((rd l1 x157).Light)], Value.bool false, Value.pointer (some ⟨b182, 0, none⟩), Value.int .i64 ((rd l1 x157).X), Value.pointer (some ⟨b182, 1, none⟩), Value.int .i64 ((rd l1 x157).Y), Value.int .i64 (mx ((rd l1 x157).X) ((rd l1 x157).Y)), Value.bool false, Value.bool false, Value.pointer (some ⟨b182, 0, none⟩), Value.int .i64 ((rd l1 x157).X), Value.pointer (some ⟨b182, 1, none⟩), Value.int .i64 ((rd l1 x157).Y), Value.int .i64 (mn ((rd l1 x157).X) ((rd l1 x157).Y)), Value.bool false, Value.bool false, Value.bool false, Value.pointer (some ⟨b182, 2, none⟩), Value.int .i64 ((rd l1 x157).Light), Value.bool false, Value.bool false, (j154 24), (j154 25), Value.bool false, Value.pointer (some ⟨b182, 2, none⟩), Value.int .i64 ((rd l1 x157).Light), Value.int .i64 x158, Value.int .i64 (w64 (281474976710656 - x158)), Value.bool false, (j154 32), (j154 33), Value.int .i64 x158, Value.pointer (some ⟨b182, 2, none⟩), Value.int .i64 ((rd l1 x157).Light), Value.int .i64 (w64 (x158 + ((rd l1 x157).Light))), Value.int .i64 sx155, Value.pointer (some ⟨b182, 2, none⟩), Value.int .i64 ((rd l1 x157).Light), Value.pointer (some ⟨b182, 0, none⟩), Value.int .i64 ((rd l1 x157).X), Value.int .i64 (w64 (2 * ((rd l1 x157).X))), Value.int .i64 (w64 ((w64 (2 * ((rd l1 x157).X))) + 1)), Value.int .i64 (w64 (((rd l1 x157).Light) * (w64 ((w64 (2 * ((rd l1 x157).X))) + 1)))), Value.int .i64 (w64 (sx155 + (w64 (((rd l1 x157).Light) * (w64 ((w64 (2 * ((rd l1 x157).X))) + 1)))))), Value.int .i64 sy156, Value.pointer (some ⟨b182, 2, none⟩), Value.int .i64 ((rd l1 x157).Light), Value.pointer (some ⟨b182, 1, none⟩), Value.int .i64 ((rd l1 x157).Y), Value.int .i64 (w64 (2 * ((rd l1 x157).Y))), Value.int .i64 (w64 ((w64 (2 * ((rd l1 x157).Y))) + 1)), Value.int .i64 (w64 (((rd l1 x157).Light) * (w64 ((w64 (2 * ((rd l1 x157).Y))) + 1)))), Value.int .i64 (w64 (sy156 + (w64 (((rd l1 x157).Light) * (w64 ((w64 (2 * ((rd l1 x157).Y))) + 1)))))), Value.int .i64 (w64 (x157 + 1))].getD i_ undef), L151, HS275, h, (by kernel_rfl)⟩
  · have c164 : ¬ (x157 < (l1.length : Int)) := c164
    refine wpRwI 14 (x := (decide (x157 < (l1.length : Int)))) (v := false) (by kernel_rfl) (decide_eq_false c164) ?_
    refine condF (by kernel_rfl) ?_
    refine wp_exit ?_
    refine hx30 _ _ ?_
    exact J267 f150 sx155 sy156 x158 (fun i_ => [(j154 0), Value.int .i64 x157, Value.bool false, (j154 2), (j154 3), (j154 4), (j154 5), (j154 6), (j154 7), (j154 8), (j154 9), (j154 10), (j154 11), (j154 12), (j154 13), (j154 14), (j154 15), (j154 16), (j154 17), (j154 18), (j154 19), (j154 20), (j154 21), (j154 22), (j154 23), (j154 24), (j154 25), (j154 26), (j154 27), (j154 28), (j154 29), (j154 30), (j154 31), (j154 32), (j154 33), (j154 34), (j154 35), (j154 36), (j154 37), (j154 38), (j154 39), (j154 40), (j154 41), (j154 42), (j154 43), (j154 44), (j154 45), (j154 46), (j154 47), (j154 48), (j154 49), (j154 50), (j154 51), (j154 52), (j154 53), (j154 54), (j154 55), (j154 56)].getD i_ undef) W152 _ L151 h HS153 (by kernel_rfl)

set_option maxRecDepth 100000 in
set_option maxHeartbeats 4000000 in
theorem spykeep3_spreads.calls (k : Nat)   {t w : World} {f : FM} {H : List Seg} (HS : St t w f (H)) (r1 : Bool) (h : spykeep3_spreads k = some r1) :
    Calls Try.prog 9 #[] w (fun e w' => ∃ (g : FM), e = .returned (Value.bool r1) ∧ FM.le f g ∧ St t w' g (H)) := by
  unfold spykeep3_spreads at h
  refine enter Try.func9 rfl (tm := #[undef, undef, undef, undef, undef, undef, undef, undef, undef, undef, undef, undef, undef, undef, undef, undef, undef, undef, undef, undef, undef, undef]) (by kernel_rfl) ?_
  intro B hret hnor hnp
  refine wp_seq_k (fun K1 hK2 => ?_)
  refine wp_region_lit ?_
  refine seqS1 (a' := ⟨#[.bool false, undef, undef, undef, undef, undef, undef, undef, undef, undef, undef, undef, undef, undef, undef, undef, undef, undef, undef, undef, undef, undef], []⟩) (by kernel_rfl) ?_
  refine wpList_nil ?_
  refine hK2 _ _ ?_
  refine wp_seq_k (fun K3 hK4 => ?_)
  refine wp_region_lit ?_
  have hq_ := bind_some h; clear h; obtain ⟨⟨vt5, vt6⟩, hc7, h⟩ := hq_
  refine seqL1 (by kernel_rfl) ?_
  refine seqK rfl (does_call (f := 11) (args := #[.agg #[.int .i64 128, .int .i64 128], .int .i64 1, .int .i64 1]) (by kernel_rfl) (optics_Point.calls k (⟨128, 128⟩ : S_Point) 1 1 HS vt5 vt6 hc7) ?_)
  rintro _ W10 ⟨f8, A12, c13, s14, rfl, L9, HS11, HO15⟩
  refine ⟨_, rfl, ?_⟩
  refine seqS5 (a' := ⟨#[.bool false, .slice A12 vt5.length c13, .int .i64 vt6, .tuple #[.slice A12 vt5.length c13, .int .i64 vt6], .agg #[.int .i64 128, .int .i64 128], .tuple #[.slice A12 vt5.length c13, .int .i64 vt6], .slice A12 vt5.length c13, .int .i64 vt6, undef, undef, undef, undef, undef, undef, undef, undef, undef, undef, undef, undef, undef, undef], []⟩) (by kernel_rfl) ?_
  refine wpList_nil ?_
  refine hK4 _ _ ?_
  refine wp_seq_k (fun K17 hK18 => ?_)
  refine wp_region_lit ?_
  refine seqS3 (a' := ⟨#[.bool false, .slice A12 vt5.length c13, .int .i64 vt6, .tuple #[.slice A12 vt5.length c13, .int .i64 vt6], .agg #[.int .i64 128, .int .i64 128], .tuple #[.slice A12 vt5.length c13, .int .i64 vt6], .slice A12 vt5.length c13, .int .i64 vt6, .int .i64 vt6, .bool (vt6 == 0), .bool (vt6 == 0), undef, undef, undef, undef, undef, undef, undef, undef, undef, undef, undef], []⟩) (by kernel_rfl) ?_
  have hq_ := ite_some h; clear h; rcases hq_ with ⟨c19, h⟩ | ⟨c19, h⟩
  · have c19 : vt6 = 0 := c19
    refine seqRwI 9 (x := (vt6 == 0)) (v := true) (by kernel_rfl) (beq_iff_eq.mpr c19) ?_
    refine seqRwI 10 (x := (vt6 == 0)) (v := true) (by kernel_rfl) (beq_iff_eq.mpr c19) ?_
    refine seqS5 (a' := ⟨#[.bool false, .slice A12 vt5.length c13, .int .i64 vt6, .tuple #[.slice A12 vt5.length c13, .int .i64 vt6], .agg #[.int .i64 128, .int .i64 128], .tuple #[.slice A12 vt5.length c13, .int .i64 vt6], .slice A12 vt5.length c13, .int .i64 vt6, .int .i64 vt6, .bool true, .bool true, .slice A12 vt5.length c13, .int .i64 (vt5.length : Int), .bool ((vt5.length : Int) == 9), .bool ((vt5.length : Int) == 9), .bool ((vt5.length : Int) == 9), undef, undef, undef, undef, undef, undef], []⟩) (by kernel_rfl) ?_
    have hq_ := ite_some h; clear h; rcases hq_ with ⟨c20, h⟩ | ⟨c20, h⟩
    · have c20 : (vt5.length : Int) = 9 := c20
      refine seqRwI 13 (x := ((vt5.length : Int) == 9)) (v := true) (by kernel_rfl) (beq_iff_eq.mpr c20) ?_
      refine seqRwI 14 (x := ((vt5.length : Int) == 9)) (v := true) (by kernel_rfl) (beq_iff_eq.mpr c20) ?_
      refine seqRwI 15 (x := ((vt5.length : Int) == 9)) (v := true) (by kernel_rfl) (beq_iff_eq.mpr c20) ?_
      have hq_ := guard_some h; clear h; obtain ⟨c21, h⟩ := hq_
      have c21 : 4 < (vt5.length : Int) := c21
      obtain ⟨b25, of26, cs22, rfl, hr23, hc24⟩ := HO15.at (i := 4) (by decide) c21
      obtain rfl := hr23
      refine seqL1 (by kernel_rfl) ?_
      refine seqG (by kernel_rfl) (does_run (run_index (sz := 3) rfl Try.underlying37 (by kernel_rfl) (by kernel_rfl : _ = Value.slice (some ⟨b25, of26, none⟩) vt5.length c13) (by kernel_rfl : _ = Value.int .i64 4) (by decide) c21 W10) ?_)
      refine seqG (by kernel_rfl) (does_run (run_loadN (n := 3) rfl Try.underlying45 rfl (by kernel_rfl) (by kernel_rfl : _ = Value.pointer (some ⟨b25, of26 + (4 : Int).toNat * 3, none⟩)) (cs := [.int .i64 ((rd vt5 4).X), .int .i64 ((rd vt5 4).Y), .int .i64 ((rd vt5 4).Light)]) rfl (fun j_ hj_ => ((hc24 HS11) j_ hj_))) ?_)
      refine seqL1 (by kernel_rfl) ?_
      refine seqG (by kernel_rfl) (does_run (run_eqS (b := ((((rd vt5 4).X) == 0) && ((((rd vt5 4).Y) == 0) && ((((rd vt5 4).Light) == 9437184) && true)))) rfl (by kernel_rfl : _ = Value.agg #[.int .i64 ((rd vt5 4).X), .int .i64 ((rd vt5 4).Y), .int .i64 ((rd vt5 4).Light)]) (by kernel_rfl : _ = Value.agg #[.int .i64 0, .int .i64 0, .int .i64 9437184]) (by kernel_rfl) (by kernel_rfl) W10) ?_)
      refine seqS2 (a' := ⟨#[.bool ((((rd vt5 4).X) == 0) && ((((rd vt5 4).Y) == 0) && ((((rd vt5 4).Light) == 9437184) && true))), .slice (some ⟨b25, of26, none⟩) vt5.length c13, .int .i64 vt6, .tuple #[.slice (some ⟨b25, of26, none⟩) vt5.length c13, .int .i64 vt6], .agg #[.int .i64 128, .int .i64 128], .tuple #[.slice (some ⟨b25, of26, none⟩) vt5.length c13, .int .i64 vt6], .slice (some ⟨b25, of26, none⟩) vt5.length c13, .int .i64 vt6, .int .i64 vt6, .bool true, .bool true, .slice (some ⟨b25, of26, none⟩) vt5.length c13, .int .i64 (vt5.length : Int), .bool true, .bool true, .bool true, .slice (some ⟨b25, of26, none⟩) vt5.length c13, .pointer (some ⟨b25, of26 + (4 : Int).toNat * 3, none⟩), .agg #[.int .i64 ((rd vt5 4).X), .int .i64 ((rd vt5 4).Y), .int .i64 ((rd vt5 4).Light)], .agg #[.int .i64 0, .int .i64 0, .int .i64 9437184], .bool ((((rd vt5 4).X) == 0) && ((((rd vt5 4).Y) == 0) && ((((rd vt5 4).Light) == 9437184) && true))), .bool ((((rd vt5 4).X) == 0) && ((((rd vt5 4).Y) == 0) && ((((rd vt5 4).Light) == 9437184) && true)))], []⟩) (by kernel_rfl) ?_
      refine wpList_nil ?_
      refine hK18 _ _ ?_
      refine wp_ret ?_
      refine hret _ _ ?_
      refine ends_still (v := Value.bool ((((rd vt5 4).X) == 0) && ((((rd vt5 4).Y) == 0) && ((((rd vt5 4).Light) == 9437184) && true)))) (by kernel_rfl) (by kernel_rfl) ?_
      have HS27 := HS11.drop
      injection h with h
      subst h
      exact ⟨f8, rfl, L9, HS27⟩
    · have c20 : ¬ ((vt5.length : Int) = 9) := c20
      refine seqRwI 13 (x := ((vt5.length : Int) == 9)) (v := false) (by kernel_rfl) (beq_eq_false_iff_ne.mpr c20) ?_
      refine seqRwI 14 (x := ((vt5.length : Int) == 9)) (v := false) (by kernel_rfl) (beq_eq_false_iff_ne.mpr c20) ?_
      refine seqRwI 15 (x := ((vt5.length : Int) == 9)) (v := false) (by kernel_rfl) (beq_eq_false_iff_ne.mpr c20) ?_
      refine seqS7 (a' := ⟨#[.bool false, .slice A12 vt5.length c13, .int .i64 vt6, .tuple #[.slice A12 vt5.length c13, .int .i64 vt6], .agg #[.int .i64 128, .int .i64 128], .tuple #[.slice A12 vt5.length c13, .int .i64 vt6], .slice A12 vt5.length c13, .int .i64 vt6, .int .i64 vt6, .bool true, .bool true, .slice A12 vt5.length c13, .int .i64 (vt5.length : Int), .bool false, .bool false, .bool false, undef, undef, undef, undef, undef, .bool false], []⟩) (by kernel_rfl) ?_
      refine wpList_nil ?_
      refine hK18 _ _ ?_
      refine wp_ret ?_
      refine hret _ _ ?_
      refine ends_still (v := Value.bool false) (by kernel_rfl) (by kernel_rfl) ?_
      have HS28 := HS11.drop
      injection h with h
      subst h
      exact ⟨f8, rfl, L9, HS28⟩
  · have c19 : ¬ (vt6 = 0) := c19
    refine seqRwI 9 (x := (vt6 == 0)) (v := false) (by kernel_rfl) (beq_eq_false_iff_ne.mpr c19) ?_
    refine seqRwI 10 (x := (vt6 == 0)) (v := false) (by kernel_rfl) (beq_eq_false_iff_ne.mpr c19) ?_
    refine seqS12 (a' := ⟨#[.bool false, .slice A12 vt5.length c13, .int .i64 vt6, .tuple #[.slice A12 vt5.length c13, .int .i64 vt6], .agg #[.int .i64 128, .int .i64 128], .tuple #[.slice A12 vt5.length c13, .int .i64 vt6], .slice A12 vt5.length c13, .int .i64 vt6, .int .i64 vt6, .bool false, .bool false, undef, undef, undef, .bool false, .bool false, undef, undef, undef, undef, undef, .bool false], []⟩) (by kernel_rfl) ?_
    refine wpList_nil ?_
    refine hK18 _ _ ?_
    refine wp_ret ?_
    refine hret _ _ ?_
    refine ends_still (v := Value.bool false) (by kernel_rfl) (by kernel_rfl) ?_
    have HS29 := HS11.drop
    injection h with h
    subst h
    exact ⟨f8, rfl, L9, HS29⟩

end Go.Sp.T4
