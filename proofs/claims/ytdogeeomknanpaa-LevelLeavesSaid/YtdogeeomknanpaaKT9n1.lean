import Derived.Test.YtdogeeomknanpaaProg
import Derived.Test.YtdogeeomknanpaaSpCopy
import Derived.Test.YtdogeeomknanpaaFT9
import Derived.Test.YtdogeeomknanpaaSpSort
import Derived.Test.YtdogeeomknanpaaShelf
import Derived.Test.YtdogeeomknanpaaKT9n0
namespace Go.Sp.T9
open Go Go.Sp Go.Proofs
set_option linter.unusedVariables false
attribute [local irreducible] wpList AnyL Code.wp Calls Does
set_option maxRecDepth 100000 in
set_option maxHeartbeats 4000000 in
theorem level_Subtract.calls (k : Nat) (A2 : Option Addr) (c3 : Nat) (c1 : S_Cells) (b5 : S_Bound) {t w : World} {f : FM} {H : List Seg} (HS : St t w f (H)) (HR4 : SlR ty_Bound f A2 c3 c1.At) (r1 : S_Cells) (r2 : Int) (h : level_Subtract k c1 b5 = some (r1, r2)) :
    Calls Try.prog 38 #[.agg #[.int .i64 c1.W, .int .i64 c1.H, .slice A2 c1.At.length c3], .agg #[.int .i64 b5.Lo, .int .i64 b5.Hi, .bool b5.Unknown]] w (fun e w' => ∃ (g : FM) (A467 : Option Addr) (c468 : Nat) (s469 : Seg), e = .returned (Value.tuple #[.agg #[.int .i64 r1.W, .int .i64 r1.H, .slice A467 r1.At.length c468], .int .i64 r2]) ∧ FM.le f g ∧ St t w' g (s469 :: H) ∧ Own ty_Bound 44 g A467 c468 s469 r1.At) := by
  unfold level_Subtract at h
  refine enter Try.func38 rfl (tm := #[.agg #[iV c1.W, iV c1.H, .slice A2 c1.At.length c3], .agg #[iV b5.Lo, iV b5.Hi, .bool b5.Unknown], uV, uV, uV, uV, uV, uV, uV, uV, uV, uV, uV, uV, uV, uV, uV, uV, uV, uV, uV, uV, uV, uV, uV, uV, uV, uV, uV, uV, uV, uV, uV, uV, uV, uV, uV, uV, uV, uV, uV, uV, uV, uV, uV, uV, uV, uV, uV, uV, uV, uV, uV, uV, uV, uV, uV, uV, uV, uV, uV, uV, uV, uV, uV]) (by kernel_rfl) ?_
  intro B hret hnor hnp
  refine wp_seq_k (fun K6 hK7 => ?_)
  refine wp_region_lit ?_
  refine seqK rfl (does_box (cs := #[.int .i64 c1.W, .int .i64 c1.H, .slice A2 c1.At.length c3]) rfl (by kernel_rfl : _ = Value.agg #[.int .i64 c1.W, .int .i64 c1.H, .slice A2 c1.At.length c3]) rfl HS ?_)
  intro b8 W9 HS10
  refine seqK rfl (does_box (cs := #[.int .i64 b5.Lo, .int .i64 b5.Hi, .bool b5.Unknown]) rfl (by kernel_rfl : _ = Value.agg #[.int .i64 b5.Lo, .int .i64 b5.Hi, .bool b5.Unknown]) rfl HS10 ?_)
  intro b12 W13 HS14
  refine seqK rfl (does_alloc (z := Value.agg #[.int .i64 0, .int .i64 0, .slice none 0 0]) (cs := #[.int .i64 0, .int .i64 0, .slice none 0 0]) rfl (by kernel_rfl) rfl HS14 ?_)
  intro b16 W17 HS18
  refine seqS1 (a' := ⟨#[.agg #[iV c1.W, iV c1.H, .slice A2 c1.At.length c3], .agg #[iV b5.Lo, iV b5.Hi, .bool b5.Unknown], .pointer (some ⟨b8, 0, none⟩), .pointer (some ⟨b12, 0, none⟩), .pointer (some ⟨b16, 0, none⟩), iV 0, uV, uV, uV, uV, uV, uV, uV, uV, uV, uV, uV, uV, uV, uV, uV, uV, uV, uV, uV, uV, uV, uV, uV, uV, uV, uV, uV, uV, uV, uV, uV, uV, uV, uV, uV, uV, uV, uV, uV, uV, uV, uV, uV, uV, uV, uV, uV, uV, uV, uV, uV, uV, uV, uV, uV, uV, uV, uV, uV], []⟩) (by kernel_rfl) ?_
  refine wpList_nil ?_
  refine hK7 _ _ ?_
  refine wp_seq_k (fun K20 hK21 => ?_)
  refine wp_seq_k (fun K22 hK23 => ?_)
  refine wp_region_lit ?_
  refine seqK rfl (does_run (run_loadN (n := 3) rfl Try.underlying34 rfl (by kernel_rfl) (by kernel_rfl : _ = Value.pointer (some ⟨b8, 0, none⟩)) (cs := [.int .i64 c1.W, .int .i64 c1.H, .slice A2 c1.At.length c3]) rfl (HS18.u2.cells 0 3 _ rfl)) ?_)
  have hq_ := bind_some h; clear h; obtain ⟨vt24, hc25, h⟩ := hq_
  refine seqK rfl (does_call (f := 63) (args := #[.agg #[.int .i64 c1.W, .int .i64 c1.H, .slice A2 c1.At.length c3]]) (by kernel_rfl) (clean_Check.calls k A2 c3 c1 HS18 HR4 vt24 hc25) ?_)
  rintro _ W28 ⟨f26, rfl, L27, HS29⟩
  refine ⟨_, rfl, ?_⟩
  refine seqS1 (a' := ⟨#[.agg #[iV c1.W, iV c1.H, .slice A2 c1.At.length c3], .agg #[iV b5.Lo, iV b5.Hi, .bool b5.Unknown], .pointer (some ⟨b8, 0, none⟩), .pointer (some ⟨b12, 0, none⟩), .pointer (some ⟨b16, 0, none⟩), iV 0, iV vt24, uV, uV, uV, uV, uV, .agg #[iV c1.W, iV c1.H, .slice A2 c1.At.length c3], iV vt24, uV, uV, uV, uV, uV, uV, uV, uV, uV, uV, uV, uV, uV, uV, uV, uV, uV, uV, uV, uV, uV, uV, uV, uV, uV, uV, uV, uV, uV, uV, uV, uV, uV, uV, uV, uV, uV, uV, uV, uV, uV, uV, uV, uV, uV, uV, uV, uV, uV, uV, uV], []⟩) (by kernel_rfl) ?_
  refine wpList_nil ?_
  refine hK23 _ _ ?_
  refine wp_seq_k (fun K30 hK31 => ?_)
  refine wp_region_lit ?_
  refine seqS2 (a' := ⟨#[.agg #[iV c1.W, iV c1.H, .slice A2 c1.At.length c3], .agg #[iV b5.Lo, iV b5.Hi, .bool b5.Unknown], .pointer (some ⟨b8, 0, none⟩), .pointer (some ⟨b12, 0, none⟩), .pointer (some ⟨b16, 0, none⟩), iV 0, iV vt24, uV, uV, uV, uV, uV, .agg #[iV c1.W, iV c1.H, .slice A2 c1.At.length c3], iV vt24, iV vt24, .bool (vt24 != 0), uV, uV, uV, uV, uV, uV, uV, uV, uV, uV, uV, uV, uV, uV, uV, uV, uV, uV, uV, uV, uV, uV, uV, uV, uV, uV, uV, uV, uV, uV, uV, uV, uV, uV, uV, uV, uV, uV, uV, uV, uV, uV, uV, uV, uV, uV, uV, uV, uV], []⟩) (by kernel_rfl) ?_
  refine wpList_nil ?_
  refine hK31 _ _ ?_
  have hq_ := ite_some h; clear h; rcases hq_ with ⟨c33, h⟩ | ⟨c33, h⟩
  · have c33 : vt24 ≠ 0 := c33
    refine wpRwI 15 (x := (vt24 != 0)) (v := true) (by kernel_rfl) (bne_iff_ne.mpr c33) ?_
    refine condT (by kernel_rfl) ?_
    refine wp_seq_k (fun K34 hK35 => ?_)
    refine wp_region_lit ?_
    refine seqL2 (by kernel_rfl) ?_
    refine seqK rfl (does_store (n := 3) (vs := [.int .i64 0, .int .i64 0, .slice none 0 0]) (cs' := #[.int .i64 0, .int .i64 0, .slice none 0 0]) rfl (by kernel_rfl) (by kernel_rfl : _ = Value.pointer (some ⟨b16, 0, none⟩)) (by kernel_rfl : _ = Value.agg #[.int .i64 0, .int .i64 0, .slice none 0 0]) rfl rfl (by intro u_ hu_; simp only [List.mem_cons, List.not_mem_nil, or_false] at hu_; rcases hu_ with rfl | rfl | rfl <;> rfl) HS29 (Nat.le_of_ble_eq_true rfl) (by kernel_rfl) ?_)
    intro W36 HS37
    refine seqS1 (a' := ⟨#[.agg #[iV c1.W, iV c1.H, .slice A2 c1.At.length c3], .agg #[iV b5.Lo, iV b5.Hi, .bool b5.Unknown], .pointer (some ⟨b8, 0, none⟩), .pointer (some ⟨b12, 0, none⟩), .pointer (some ⟨b16, 0, none⟩), iV vt24, iV vt24, uV, uV, uV, uV, uV, .agg #[iV c1.W, iV c1.H, .slice A2 c1.At.length c3], iV vt24, iV vt24, .bool true, .agg #[iV 0, iV 0, .slice none 0 0], iV vt24, uV, uV, uV, uV, uV, uV, uV, uV, uV, uV, uV, uV, uV, uV, uV, uV, uV, uV, uV, uV, uV, uV, uV, uV, uV, uV, uV, uV, uV, uV, uV, uV, uV, uV, uV, uV, uV, uV, uV, uV, uV, uV, uV, uV, uV, uV, uV], []⟩) (by kernel_rfl) ?_
    refine wpList_nil ?_
    refine hK35 _ _ ?_
    refine wp_ret ?_
    refine hret _ _ ?_
    have HS420 := HS37.cons_nil
    refine ends (v := Value.tuple #[.agg #[.int .i64 0, .int .i64 0, .slice none 0 0], .int .i64 vt24]) (results2 (q1 := .cell 4 34) (q2 := .tmp 5) (by kernel_rfl) (resN (n := 3) (cs := [.int .i64 0, .int .i64 0, .slice none 0 0]) (by kernel_rfl : _ = Value.pointer (some ⟨b16, 0, none⟩)) Try.underlying34 rfl (by kernel_rfl) rfl (HS420.u1.cells 0 3 _ rfl)) (resT (by kernel_rfl : _ = Value.int .i64 vt24))) (by kernel_rfl) ?_
    have HS422 := HS420.u3
    have HS423 := HS422.u3
    have HS424 := HS423.u3
    have HS425 := HS424.drop
    have HS426 := HS425.drop
    have HS427 := HS426.drop
    injection h with h
    injection h with h0_ h
    subst h0_ h
    exact ⟨f26, none, 0, [], rfl, L27, HS427, (Own.nil _)⟩
  · have c33 : ¬ (vt24 ≠ 0) := c33
    refine wpRwI 15 (x := (vt24 != 0)) (v := false) (by kernel_rfl) (bne_eq_false_iff_eq.mpr (Decidable.of_not_not c33)) ?_
    refine condF (by kernel_rfl) ?_
    refine wp_skip ?_
    refine hK21 _ _ ?_
    refine wp_seq_k (fun K38 hK39 => ?_)
    refine wp_seq_k (fun K40 hK41 => ?_)
    refine wp_region_lit ?_
    refine seqK rfl (does_run (run_loadN (n := 3) rfl Try.underlying44 rfl (by kernel_rfl) (by kernel_rfl : _ = Value.pointer (some ⟨b12, 0, none⟩)) (cs := [.int .i64 b5.Lo, .int .i64 b5.Hi, .bool b5.Unknown]) rfl (HS29.u1.cells 0 3 _ rfl)) ?_)
    have hq_ := bind_some h; clear h; obtain ⟨vt42, hc43, h⟩ := hq_
    refine seqK rfl (does_call (f := 71) (args := #[.agg #[.int .i64 b5.Lo, .int .i64 b5.Hi, .bool b5.Unknown]]) (by kernel_rfl) (bound_Check_Quanta.calls k b5 HS29 vt42 hc43) ?_)
    rintro _ W46 ⟨f44, rfl, L45, HS47⟩
    refine ⟨_, rfl, ?_⟩
    refine seqS1 (a' := ⟨#[.agg #[iV c1.W, iV c1.H, .slice A2 c1.At.length c3], .agg #[iV b5.Lo, iV b5.Hi, .bool b5.Unknown], .pointer (some ⟨b8, 0, none⟩), .pointer (some ⟨b12, 0, none⟩), .pointer (some ⟨b16, 0, none⟩), iV 0, iV vt24, iV vt42, uV, uV, uV, uV, .agg #[iV c1.W, iV c1.H, .slice A2 c1.At.length c3], iV vt24, iV vt24, .bool false, uV, uV, .agg #[iV b5.Lo, iV b5.Hi, .bool b5.Unknown], iV vt42, uV, uV, uV, uV, uV, uV, uV, uV, uV, uV, uV, uV, uV, uV, uV, uV, uV, uV, uV, uV, uV, uV, uV, uV, uV, uV, uV, uV, uV, uV, uV, uV, uV, uV, uV, uV, uV, uV, uV, uV, uV, uV, uV, uV, uV], []⟩) (by kernel_rfl) ?_
    refine wpList_nil ?_
    refine hK41 _ _ ?_
    refine wp_seq_k (fun K48 hK49 => ?_)
    refine wp_region_lit ?_
    refine seqS3 (a' := ⟨#[.agg #[iV c1.W, iV c1.H, .slice A2 c1.At.length c3], .agg #[iV b5.Lo, iV b5.Hi, .bool b5.Unknown], .pointer (some ⟨b8, 0, none⟩), .pointer (some ⟨b12, 0, none⟩), .pointer (some ⟨b16, 0, none⟩), iV 0, iV vt24, iV vt42, uV, uV, uV, uV, .agg #[iV c1.W, iV c1.H, .slice A2 c1.At.length c3], iV vt24, iV vt24, .bool false, uV, uV, .agg #[iV b5.Lo, iV b5.Hi, .bool b5.Unknown], iV vt42, iV vt42, .bool (vt42 != 0), .bool (vt42 != 0), uV, uV, uV, uV, uV, uV, uV, uV, uV, uV, uV, uV, uV, uV, uV, uV, uV, uV, uV, uV, uV, uV, uV, uV, uV, uV, uV, uV, uV, uV, uV, uV, uV, uV, uV, uV, uV, uV, uV, uV, uV, uV], []⟩) (by kernel_rfl) ?_
    have hq_ := ite_some h; clear h; rcases hq_ with ⟨c50, h⟩ | ⟨c50, h⟩
    · have c50 : vt42 ≠ 0 := c50
      refine seqRwI 21 (x := (vt42 != 0)) (v := true) (by kernel_rfl) (bne_iff_ne.mpr c50) ?_
      refine seqRwI 22 (x := (vt42 != 0)) (v := true) (by kernel_rfl) (bne_iff_ne.mpr c50) ?_
      refine seqS9 (a' := ⟨#[.agg #[iV c1.W, iV c1.H, .slice A2 c1.At.length c3], .agg #[iV b5.Lo, iV b5.Hi, .bool b5.Unknown], .pointer (some ⟨b8, 0, none⟩), .pointer (some ⟨b12, 0, none⟩), .pointer (some ⟨b16, 0, none⟩), iV 0, iV vt24, iV vt42, uV, uV, uV, uV, .agg #[iV c1.W, iV c1.H, .slice A2 c1.At.length c3], iV vt24, iV vt24, .bool false, uV, uV, .agg #[iV b5.Lo, iV b5.Hi, .bool b5.Unknown], iV vt42, iV vt42, .bool true, .bool true, uV, uV, uV, .bool true, .bool true, uV, uV, uV, .bool true, uV, uV, uV, uV, uV, uV, uV, uV, uV, uV, uV, uV, uV, uV, uV, uV, uV, uV, uV, uV, uV, uV, uV, uV, uV, uV, uV, uV, uV, uV, uV, uV, uV], []⟩) (by kernel_rfl) ?_
      refine wpList_nil ?_
      refine hK49 _ _ ?_
      refine condT (by kernel_rfl) ?_
      refine wp_seq_k (fun K51 hK52 => ?_)
      refine wp_region_lit ?_
      refine seqL2 (by kernel_rfl) ?_
      refine seqK rfl (does_lit (e := (tInt .i64)) (E := 35) (vs := #[(0, Value.int .i64 vt42), (1, Value.int .i64 4)]) (cs := #[.int .i64 vt42, .int .i64 4]) (xs := ([vt42, 4] : List Int)) rfl Try.underlying137 (by kernel_rfl) (by kernel_rfl) ⟨[.int .i64 vt42], _, rfl, rfl, ⟨[.int .i64 4], _, rfl, rfl, rfl⟩⟩ rfl HS47 ?_ (by decide))
      intro b53 W54 s55 HS56 _ HO57
      obtain ⟨f59, L60, HS61, HR62, th63⟩ := HO57.lend HS56
      have hq_ := bind_some h; clear h; obtain ⟨vt64, hc65, h⟩ := hq_
      refine seqK rfl (does_call (f := 72) (args := #[.slice (some ⟨b53, 0, none⟩) ([vt42, 4] : List Int).length 2]) (by kernel_rfl) (cmp_Or_Errno.calls k (some ⟨b53, 0, none⟩) 2 ([vt42, 4] : List Int) HS61 HR62 vt64 hc65) ?_)
      rintro _ W68 ⟨f66, rfl, L67, HS69⟩
      refine ⟨_, rfl, ?_⟩
      obtain ⟨f70, L71, HS72⟩ := th63 L67 HS69
      have HS73 := HS72.u1
      refine seqK rfl (does_store (n := 3) (vs := [.int .i64 0, .int .i64 0, .slice none 0 0]) (cs' := #[.int .i64 0, .int .i64 0, .slice none 0 0]) rfl (by kernel_rfl) (by kernel_rfl : _ = Value.pointer (some ⟨b16, 0, none⟩)) (by kernel_rfl : _ = Value.agg #[.int .i64 0, .int .i64 0, .slice none 0 0]) rfl rfl (by intro u_ hu_; simp only [List.mem_cons, List.not_mem_nil, or_false] at hu_; rcases hu_ with rfl | rfl | rfl <;> rfl) HS73 (Nat.le_of_ble_eq_true rfl) (by kernel_rfl) ?_)
      intro W74 HS75
      refine seqS1 (a' := ⟨#[.agg #[iV c1.W, iV c1.H, .slice A2 c1.At.length c3], .agg #[iV b5.Lo, iV b5.Hi, .bool b5.Unknown], .pointer (some ⟨b8, 0, none⟩), .pointer (some ⟨b12, 0, none⟩), .pointer (some ⟨b16, 0, none⟩), iV vt64, iV vt24, iV vt42, uV, uV, uV, uV, .agg #[iV c1.W, iV c1.H, .slice A2 c1.At.length c3], iV vt24, iV vt24, .bool false, uV, uV, .agg #[iV b5.Lo, iV b5.Hi, .bool b5.Unknown], iV vt42, iV vt42, .bool true, .bool true, uV, uV, uV, .bool true, .bool true, uV, uV, uV, .bool true, .agg #[iV 0, iV 0, .slice none 0 0], iV vt42, .slice (some ⟨b53, 0, none⟩) ([vt42, 4] : List Int).length 2, iV vt64, uV, uV, uV, uV, uV, uV, uV, uV, uV, uV, uV, uV, uV, uV, uV, uV, uV, uV, uV, uV, uV, uV, uV, uV, uV, uV, uV, uV, uV], []⟩) (by kernel_rfl) ?_
      refine wpList_nil ?_
      refine hK52 _ _ ?_
      refine wp_ret ?_
      refine hret _ _ ?_
      have HS428 := HS75.cons_nil
      refine ends (v := Value.tuple #[.agg #[.int .i64 0, .int .i64 0, .slice none 0 0], .int .i64 vt64]) (results2 (q1 := .cell 4 34) (q2 := .tmp 5) (by kernel_rfl) (resN (n := 3) (cs := [.int .i64 0, .int .i64 0, .slice none 0 0]) (by kernel_rfl : _ = Value.pointer (some ⟨b16, 0, none⟩)) Try.underlying34 rfl (by kernel_rfl) rfl (HS428.u1.cells 0 3 _ rfl)) (resT (by kernel_rfl : _ = Value.int .i64 vt64))) (by kernel_rfl) ?_
      have HS430 := HS428.u4
      have HS431 := HS430.u4
      have HS432 := HS431.u4
      have HS433 := HS432.u4
      have HS434 := HS433.drop
      have HS435 := HS434.drop
      have HS436 := HS435.drop
      have HS437 := HS436.drop
      injection h with h
      injection h with h0_ h
      subst h0_ h
      exact ⟨f70, none, 0, [], rfl, (L27.trans (L45.trans L71)), HS437, (Own.nil _)⟩
    · have c50 : ¬ (vt42 ≠ 0) := c50
      refine seqRwI 21 (x := (vt42 != 0)) (v := false) (by kernel_rfl) (bne_eq_false_iff_eq.mpr (Decidable.of_not_not c50)) ?_
      refine seqRwI 22 (x := (vt42 != 0)) (v := false) (by kernel_rfl) (bne_eq_false_iff_eq.mpr (Decidable.of_not_not c50)) ?_
      refine seqL1 (by kernel_rfl) ?_
      refine seqG (by kernel_rfl) (does_run (run_load rfl Try.underlying42 rfl (by kernel_rfl : _ = Value.pointer (some ⟨b12, 0, none⟩)) (HS47.u1.cell 0)) ?_)
      refine seqS3 (a' := ⟨#[.agg #[iV c1.W, iV c1.H, .slice A2 c1.At.length c3], .agg #[iV b5.Lo, iV b5.Hi, .bool b5.Unknown], .pointer (some ⟨b8, 0, none⟩), .pointer (some ⟨b12, 0, none⟩), .pointer (some ⟨b16, 0, none⟩), iV 0, iV vt24, iV vt42, uV, uV, uV, uV, .agg #[iV c1.W, iV c1.H, .slice A2 c1.At.length c3], iV vt24, iV vt24, .bool false, uV, uV, .agg #[iV b5.Lo, iV b5.Hi, .bool b5.Unknown], iV vt42, iV vt42, .bool false, .bool false, .pointer (some ⟨b12, 0, none⟩), iV b5.Lo, .bool (decide (b5.Lo < (-549755813888))), .bool (decide (b5.Lo < (-549755813888))), .bool (decide (b5.Lo < (-549755813888))), uV, uV, uV, uV, uV, uV, uV, uV, uV, uV, uV, uV, uV, uV, uV, uV, uV, uV, uV, uV, uV, uV, uV, uV, uV, uV, uV, uV, uV, uV, uV, uV, uV, uV, uV, uV, uV], []⟩) (by kernel_rfl) ?_
      have hq_ := ite_some h; clear h; rcases hq_ with ⟨c76, h⟩ | ⟨c76, h⟩
      · have c76 : b5.Lo < (-549755813888) := c76
        refine seqRwI 25 (x := (decide (b5.Lo < (-549755813888)))) (v := true) (by kernel_rfl) (decide_eq_true c76) ?_
        refine seqRwI 26 (x := (decide (b5.Lo < (-549755813888)))) (v := true) (by kernel_rfl) (decide_eq_true c76) ?_
        refine seqRwI 27 (x := (decide (b5.Lo < (-549755813888)))) (v := true) (by kernel_rfl) (decide_eq_true c76) ?_
        refine seqS4 (a' := ⟨#[.agg #[iV c1.W, iV c1.H, .slice A2 c1.At.length c3], .agg #[iV b5.Lo, iV b5.Hi, .bool b5.Unknown], .pointer (some ⟨b8, 0, none⟩), .pointer (some ⟨b12, 0, none⟩), .pointer (some ⟨b16, 0, none⟩), iV 0, iV vt24, iV vt42, uV, uV, uV, uV, .agg #[iV c1.W, iV c1.H, .slice A2 c1.At.length c3], iV vt24, iV vt24, .bool false, uV, uV, .agg #[iV b5.Lo, iV b5.Hi, .bool b5.Unknown], iV vt42, iV vt42, .bool false, .bool false, .pointer (some ⟨b12, 0, none⟩), iV b5.Lo, .bool true, .bool true, .bool true, uV, uV, uV, .bool true, uV, uV, uV, uV, uV, uV, uV, uV, uV, uV, uV, uV, uV, uV, uV, uV, uV, uV, uV, uV, uV, uV, uV, uV, uV, uV, uV, uV, uV, uV, uV, uV, uV], []⟩) (by kernel_rfl) ?_
        refine wpList_nil ?_
        refine hK49 _ _ ?_
        refine condT (by kernel_rfl) ?_
        refine wp_seq_k (fun K77 hK78 => ?_)
        refine wp_region_lit ?_
        refine seqL2 (by kernel_rfl) ?_
        refine seqK rfl (does_lit (e := (tInt .i64)) (E := 35) (vs := #[(0, Value.int .i64 vt42), (1, Value.int .i64 4)]) (cs := #[.int .i64 vt42, .int .i64 4]) (xs := ([vt42, 4] : List Int)) rfl Try.underlying137 (by kernel_rfl) (by kernel_rfl) ⟨[.int .i64 vt42], _, rfl, rfl, ⟨[.int .i64 4], _, rfl, rfl, rfl⟩⟩ rfl HS47 ?_ (by decide))
        intro b79 W80 s81 HS82 _ HO83
        obtain ⟨f85, L86, HS87, HR88, th89⟩ := HO83.lend HS82
        have hq_ := bind_some h; clear h; obtain ⟨vt90, hc91, h⟩ := hq_
        refine seqK rfl (does_call (f := 72) (args := #[.slice (some ⟨b79, 0, none⟩) ([vt42, 4] : List Int).length 2]) (by kernel_rfl) (cmp_Or_Errno.calls k (some ⟨b79, 0, none⟩) 2 ([vt42, 4] : List Int) HS87 HR88 vt90 hc91) ?_)
        rintro _ W94 ⟨f92, rfl, L93, HS95⟩
        refine ⟨_, rfl, ?_⟩
        obtain ⟨f96, L97, HS98⟩ := th89 L93 HS95
        have HS99 := HS98.u1
        refine seqK rfl (does_store (n := 3) (vs := [.int .i64 0, .int .i64 0, .slice none 0 0]) (cs' := #[.int .i64 0, .int .i64 0, .slice none 0 0]) rfl (by kernel_rfl) (by kernel_rfl : _ = Value.pointer (some ⟨b16, 0, none⟩)) (by kernel_rfl : _ = Value.agg #[.int .i64 0, .int .i64 0, .slice none 0 0]) rfl rfl (by intro u_ hu_; simp only [List.mem_cons, List.not_mem_nil, or_false] at hu_; rcases hu_ with rfl | rfl | rfl <;> rfl) HS99 (Nat.le_of_ble_eq_true rfl) (by kernel_rfl) ?_)
        intro W100 HS101
        refine seqS1 (a' := ⟨#[.agg #[iV c1.W, iV c1.H, .slice A2 c1.At.length c3], .agg #[iV b5.Lo, iV b5.Hi, .bool b5.Unknown], .pointer (some ⟨b8, 0, none⟩), .pointer (some ⟨b12, 0, none⟩), .pointer (some ⟨b16, 0, none⟩), iV vt90, iV vt24, iV vt42, uV, uV, uV, uV, .agg #[iV c1.W, iV c1.H, .slice A2 c1.At.length c3], iV vt24, iV vt24, .bool false, uV, uV, .agg #[iV b5.Lo, iV b5.Hi, .bool b5.Unknown], iV vt42, iV vt42, .bool false, .bool false, .pointer (some ⟨b12, 0, none⟩), iV b5.Lo, .bool true, .bool true, .bool true, uV, uV, uV, .bool true, .agg #[iV 0, iV 0, .slice none 0 0], iV vt42, .slice (some ⟨b79, 0, none⟩) ([vt42, 4] : List Int).length 2, iV vt90, uV, uV, uV, uV, uV, uV, uV, uV, uV, uV, uV, uV, uV, uV, uV, uV, uV, uV, uV, uV, uV, uV, uV, uV, uV, uV, uV, uV, uV], []⟩) (by kernel_rfl) ?_
        refine wpList_nil ?_
        refine hK78 _ _ ?_
        refine wp_ret ?_
        refine hret _ _ ?_
        have HS438 := HS101.cons_nil
        refine ends (v := Value.tuple #[.agg #[.int .i64 0, .int .i64 0, .slice none 0 0], .int .i64 vt90]) (results2 (q1 := .cell 4 34) (q2 := .tmp 5) (by kernel_rfl) (resN (n := 3) (cs := [.int .i64 0, .int .i64 0, .slice none 0 0]) (by kernel_rfl : _ = Value.pointer (some ⟨b16, 0, none⟩)) Try.underlying34 rfl (by kernel_rfl) rfl (HS438.u1.cells 0 3 _ rfl)) (resT (by kernel_rfl : _ = Value.int .i64 vt90))) (by kernel_rfl) ?_
        have HS440 := HS438.u4
        have HS441 := HS440.u4
        have HS442 := HS441.u4
        have HS443 := HS442.u4
        have HS444 := HS443.drop
        have HS445 := HS444.drop
        have HS446 := HS445.drop
        have HS447 := HS446.drop
        injection h with h
        injection h with h0_ h
        subst h0_ h
        exact ⟨f96, none, 0, [], rfl, (L27.trans (L45.trans L97)), HS447, (Own.nil _)⟩
      · have c76 : ¬ (b5.Lo < (-549755813888)) := c76
        refine seqRwI 25 (x := (decide (b5.Lo < (-549755813888)))) (v := false) (by kernel_rfl) (decide_eq_false c76) ?_
        refine seqRwI 26 (x := (decide (b5.Lo < (-549755813888)))) (v := false) (by kernel_rfl) (decide_eq_false c76) ?_
        refine seqRwI 27 (x := (decide (b5.Lo < (-549755813888)))) (v := false) (by kernel_rfl) (decide_eq_false c76) ?_
        refine seqL1 (by kernel_rfl) ?_
        refine seqG (by kernel_rfl) (does_run (run_load rfl Try.underlying42 rfl (by kernel_rfl : _ = Value.pointer (some ⟨b12, 1, none⟩)) (HS47.u1.cell 1)) ?_)
        refine seqS2 (a' := ⟨#[.agg #[iV c1.W, iV c1.H, .slice A2 c1.At.length c3], .agg #[iV b5.Lo, iV b5.Hi, .bool b5.Unknown], .pointer (some ⟨b8, 0, none⟩), .pointer (some ⟨b12, 0, none⟩), .pointer (some ⟨b16, 0, none⟩), iV 0, iV vt24, iV vt42, uV, uV, uV, uV, .agg #[iV c1.W, iV c1.H, .slice A2 c1.At.length c3], iV vt24, iV vt24, .bool false, uV, uV, .agg #[iV b5.Lo, iV b5.Hi, .bool b5.Unknown], iV vt42, iV vt42, .bool false, .bool false, .pointer (some ⟨b12, 0, none⟩), iV b5.Lo, .bool false, .bool false, .bool false, .pointer (some ⟨b12, 1, none⟩), iV b5.Hi, .bool (decide (b5.Hi > 549755813888)), .bool (decide (b5.Hi > 549755813888)), uV, uV, uV, uV, uV, uV, uV, uV, uV, uV, uV, uV, uV, uV, uV, uV, uV, uV, uV, uV, uV, uV, uV, uV, uV, uV, uV, uV, uV, uV, uV, uV, uV], []⟩) (by kernel_rfl) ?_
        refine wpList_nil ?_
        refine hK49 _ _ ?_
        have hq_ := ite_some h; clear h; rcases hq_ with ⟨c103, h⟩ | ⟨c103, h⟩
        · have c103 : b5.Hi > 549755813888 := c103
          refine wpRwI 30 (x := (decide (b5.Hi > 549755813888))) (v := true) (by kernel_rfl) (decide_eq_true c103) ?_
          refine wpRwI 31 (x := (decide (b5.Hi > 549755813888))) (v := true) (by kernel_rfl) (decide_eq_true c103) ?_
          refine condT (by kernel_rfl) ?_
          refine wp_seq_k (fun K104 hK105 => ?_)
          refine wp_region_lit ?_
          refine seqL2 (by kernel_rfl) ?_
          refine seqK rfl (does_lit (e := (tInt .i64)) (E := 35) (vs := #[(0, Value.int .i64 vt42), (1, Value.int .i64 4)]) (cs := #[.int .i64 vt42, .int .i64 4]) (xs := ([vt42, 4] : List Int)) rfl Try.underlying137 (by kernel_rfl) (by kernel_rfl) ⟨[.int .i64 vt42], _, rfl, rfl, ⟨[.int .i64 4], _, rfl, rfl, rfl⟩⟩ rfl HS47 ?_ (by decide))
          intro b106 W107 s108 HS109 _ HO110
          obtain ⟨f112, L113, HS114, HR115, th116⟩ := HO110.lend HS109
          have hq_ := bind_some h; clear h; obtain ⟨vt117, hc118, h⟩ := hq_
          refine seqK rfl (does_call (f := 72) (args := #[.slice (some ⟨b106, 0, none⟩) ([vt42, 4] : List Int).length 2]) (by kernel_rfl) (cmp_Or_Errno.calls k (some ⟨b106, 0, none⟩) 2 ([vt42, 4] : List Int) HS114 HR115 vt117 hc118) ?_)
          rintro _ W121 ⟨f119, rfl, L120, HS122⟩
          refine ⟨_, rfl, ?_⟩
          obtain ⟨f123, L124, HS125⟩ := th116 L120 HS122
          have HS126 := HS125.u1
          refine seqK rfl (does_store (n := 3) (vs := [.int .i64 0, .int .i64 0, .slice none 0 0]) (cs' := #[.int .i64 0, .int .i64 0, .slice none 0 0]) rfl (by kernel_rfl) (by kernel_rfl : _ = Value.pointer (some ⟨b16, 0, none⟩)) (by kernel_rfl : _ = Value.agg #[.int .i64 0, .int .i64 0, .slice none 0 0]) rfl rfl (by intro u_ hu_; simp only [List.mem_cons, List.not_mem_nil, or_false] at hu_; rcases hu_ with rfl | rfl | rfl <;> rfl) HS126 (Nat.le_of_ble_eq_true rfl) (by kernel_rfl) ?_)
          intro W127 HS128
          refine seqS1 (a' := ⟨#[.agg #[iV c1.W, iV c1.H, .slice A2 c1.At.length c3], .agg #[iV b5.Lo, iV b5.Hi, .bool b5.Unknown], .pointer (some ⟨b8, 0, none⟩), .pointer (some ⟨b12, 0, none⟩), .pointer (some ⟨b16, 0, none⟩), iV vt117, iV vt24, iV vt42, uV, uV, uV, uV, .agg #[iV c1.W, iV c1.H, .slice A2 c1.At.length c3], iV vt24, iV vt24, .bool false, uV, uV, .agg #[iV b5.Lo, iV b5.Hi, .bool b5.Unknown], iV vt42, iV vt42, .bool false, .bool false, .pointer (some ⟨b12, 0, none⟩), iV b5.Lo, .bool false, .bool false, .bool false, .pointer (some ⟨b12, 1, none⟩), iV b5.Hi, .bool true, .bool true, .agg #[iV 0, iV 0, .slice none 0 0], iV vt42, .slice (some ⟨b106, 0, none⟩) ([vt42, 4] : List Int).length 2, iV vt117, uV, uV, uV, uV, uV, uV, uV, uV, uV, uV, uV, uV, uV, uV, uV, uV, uV, uV, uV, uV, uV, uV, uV, uV, uV, uV, uV, uV, uV], []⟩) (by kernel_rfl) ?_
          refine wpList_nil ?_
          refine hK105 _ _ ?_
          refine wp_ret ?_
          refine hret _ _ ?_
          have HS448 := HS128.cons_nil
          refine ends (v := Value.tuple #[.agg #[.int .i64 0, .int .i64 0, .slice none 0 0], .int .i64 vt117]) (results2 (q1 := .cell 4 34) (q2 := .tmp 5) (by kernel_rfl) (resN (n := 3) (cs := [.int .i64 0, .int .i64 0, .slice none 0 0]) (by kernel_rfl : _ = Value.pointer (some ⟨b16, 0, none⟩)) Try.underlying34 rfl (by kernel_rfl) rfl (HS448.u1.cells 0 3 _ rfl)) (resT (by kernel_rfl : _ = Value.int .i64 vt117))) (by kernel_rfl) ?_
          have HS450 := HS448.u4
          have HS451 := HS450.u4
          have HS452 := HS451.u4
          have HS453 := HS452.u4
          have HS454 := HS453.drop
          have HS455 := HS454.drop
          have HS456 := HS455.drop
          have HS457 := HS456.drop
          injection h with h
          injection h with h0_ h
          subst h0_ h
          exact ⟨f123, none, 0, [], rfl, (L27.trans (L45.trans L124)), HS457, (Own.nil _)⟩
        · have c103 : ¬ (b5.Hi > 549755813888) := c103
          refine wpRwI 30 (x := (decide (b5.Hi > 549755813888))) (v := false) (by kernel_rfl) (decide_eq_false c103) ?_
          refine wpRwI 31 (x := (decide (b5.Hi > 549755813888))) (v := false) (by kernel_rfl) (decide_eq_false c103) ?_
          refine condF (by kernel_rfl) ?_
          refine wp_skip ?_
          refine hK39 _ _ ?_
          refine wp_seq_k (fun K129 hK130 => ?_)
          refine wp_region_lit ?_
          refine seqL1 (by kernel_rfl) ?_
          refine seqK rfl (does_run (run_load rfl Try.underlying3 rfl (by kernel_rfl : _ = Value.pointer (some ⟨b8, 0, none⟩)) (HS47.u2.cell 0)) ?_)
          refine seqL1 (by kernel_rfl) ?_
          refine seqK rfl (does_run (run_load rfl Try.underlying3 rfl (by kernel_rfl : _ = Value.pointer (some ⟨b8, 1, none⟩)) (HS47.u2.cell 1)) ?_)
          refine seqL1 (by kernel_rfl) ?_
          refine seqK rfl (does_alloc (z := Value.agg #[.int .i64 0, .int .i64 0, .slice none 0 0]) (cs := #[.int .i64 0, .int .i64 0, .slice none 0 0]) rfl (by kernel_rfl) rfl HS47 ?_)
          intro b131 W132 HS133
          refine seqK rfl (does_store (n := 3) (vs := [.int .i64 c1.W, .int .i64 c1.H, .slice none 0 0]) (cs' := #[.int .i64 c1.W, .int .i64 c1.H, .slice none 0 0]) rfl (by kernel_rfl) (by kernel_rfl : _ = Value.pointer (some ⟨b131, 0, none⟩)) (by kernel_rfl : _ = Value.agg #[.int .i64 c1.W, .int .i64 c1.H, .slice none 0 0]) rfl rfl (by intro u_ hu_; simp only [List.mem_cons, List.not_mem_nil, or_false] at hu_; rcases hu_ with rfl | rfl | rfl <;> rfl) HS133 (Nat.le_of_ble_eq_true rfl) (by kernel_rfl) ?_)
          intro W135 HS136
          refine wpList_nil ?_
          refine hK130 _ _ ?_
          refine wp_seq_k (fun K137 hK138 => ?_)
          refine wp_seq_k (fun K139 hK140 => ?_)
          refine wp_region_lit ?_
          refine seqL1 (by kernel_rfl) ?_
          refine seqK rfl (does_run (run_load rfl Try.underlying32 rfl (by kernel_rfl : _ = Value.pointer (some ⟨b8, 2, none⟩)) (HS136.u3.cell 2)) ?_)
          refine seqS2 (a' := ⟨#[.agg #[iV c1.W, iV c1.H, .slice A2 c1.At.length c3], .agg #[iV b5.Lo, iV b5.Hi, .bool b5.Unknown], .pointer (some ⟨b8, 0, none⟩), .pointer (some ⟨b12, 0, none⟩), .pointer (some ⟨b16, 0, none⟩), iV 0, iV vt24, iV vt42, .pointer (some ⟨b131, 0, none⟩), uV, uV, uV, .agg #[iV c1.W, iV c1.H, .slice A2 c1.At.length c3], iV vt24, iV vt24, .bool false, uV, uV, .agg #[iV b5.Lo, iV b5.Hi, .bool b5.Unknown], iV vt42, iV vt42, .bool false, .bool false, .pointer (some ⟨b12, 0, none⟩), iV b5.Lo, .bool false, .bool false, .bool false, .pointer (some ⟨b12, 1, none⟩), iV b5.Hi, .bool false, .bool false, uV, uV, uV, uV, .pointer (some ⟨b8, 0, none⟩), iV c1.W, .pointer (some ⟨b8, 1, none⟩), iV c1.H, .agg #[iV c1.W, iV c1.H, .slice none 0 0], .pointer (some ⟨b8, 2, none⟩), .slice A2 c1.At.length c3, iV (c1.At.length : Int), iV 0, uV, uV, uV, uV, uV, uV, uV, uV, uV, uV, uV, uV, uV, uV, uV, uV, uV, uV, uV, uV], []⟩) (by kernel_rfl) ?_
          refine wpList_nil ?_
          refine hK140 _ _ ?_
          refine blockK (fun B141 hx142 hn143 hr144 ho145 hp146 => ?_)
          have hq_ := bind_some h; clear h; obtain ⟨o266, hv401, h⟩ := hq_
          have J402 : ∀ (f390 : FM) (A396 : Option Addr) (c397 : Nat) (s398 : Seg) (x395 : List S_Bound) (j394 : Nat → Value) (W392 : World) (a_ : Act), FM.le f44 f390 → some (x395) = some o266 → St t W392 f390 (s398 :: [(b131, .cells #[.int .i64 c1.W, .int .i64 c1.H, .slice A396 x395.length c397] 34 (0, 0))] :: [(b16, .cells #[.int .i64 0, .int .i64 0, .slice none 0 0] 34 (0, 0))] :: [(b12, .cells #[.int .i64 b5.Lo, .int .i64 b5.Hi, .bool b5.Unknown] 44 (0, 0))] :: [(b8, .cells #[.int .i64 c1.W, .int .i64 c1.H, .slice A2 c1.At.length c3] 34 (0, 0))] :: H) → Own ty_Bound 44 f390 A396 c397 s398 x395 → a_ = ⟨#[.agg #[iV c1.W, iV c1.H, .slice A2 c1.At.length c3], .agg #[iV b5.Lo, iV b5.Hi, .bool b5.Unknown], .pointer (some ⟨b8, 0, none⟩), .pointer (some ⟨b12, 0, none⟩), .pointer (some ⟨b16, 0, none⟩), iV 0, iV vt24, iV vt42, .pointer (some ⟨b131, 0, none⟩), uV, (j394 0), (j394 1), .agg #[iV c1.W, iV c1.H, .slice A2 c1.At.length c3], iV vt24, iV vt24, .bool false, uV, uV, .agg #[iV b5.Lo, iV b5.Hi, .bool b5.Unknown], iV vt42, iV vt42, .bool false, .bool false, .pointer (some ⟨b12, 0, none⟩), iV b5.Lo, .bool false, .bool false, .bool false, .pointer (some ⟨b12, 1, none⟩), iV b5.Hi, .bool false, .bool false, uV, uV, uV, uV, .pointer (some ⟨b8, 0, none⟩), iV c1.W, .pointer (some ⟨b8, 1, none⟩), iV c1.H, .agg #[iV c1.W, iV c1.H, .slice none 0 0], .pointer (some ⟨b8, 2, none⟩), .slice A2 c1.At.length c3, iV (c1.At.length : Int), (j394 2), (j394 3), (j394 4), (j394 5), (j394 6), (j394 7), (j394 8), (j394 9), (j394 10), (j394 11), (j394 12), (j394 13), (j394 14), (j394 15), (j394 16), (j394 17), (j394 18), (j394 19), (j394 20), (j394 21), uV], []⟩ → K137 a_ W392 := by
            intro f390 A396 c397 s398 x395 j394 W392 a_ L391 hj403 HS393 HO399 hfr_; subst hfr_
            injection hj403 with hj403; subst hj403; try dsimp only at h
            refine hK138 _ _ ?_
            refine wp_seq_k (fun K415 hK416 => ?_)
            refine wp_region_lit ?_
            refine seqK rfl (does_run (run_loadN (n := 3) rfl Try.underlying34 rfl (by kernel_rfl) (by kernel_rfl : _ = Value.pointer (some ⟨b131, 0, none⟩)) (cs := [.int .i64 c1.W, .int .i64 c1.H, .slice A396 x395.length c397]) rfl (HS393.u1.cells 0 3 _ rfl)) ?_)
            have HS417 := HS393.u2
            refine seqK rfl (does_store (n := 3) (vs := [.int .i64 c1.W, .int .i64 c1.H, .slice A396 x395.length c397]) (cs' := #[.int .i64 c1.W, .int .i64 c1.H, .slice A396 x395.length c397]) rfl (by kernel_rfl) (by kernel_rfl : _ = Value.pointer (some ⟨b16, 0, none⟩)) (by kernel_rfl : _ = Value.agg #[.int .i64 c1.W, .int .i64 c1.H, .slice A396 x395.length c397]) rfl rfl (by intro u_ hu_; simp only [List.mem_cons, List.not_mem_nil, or_false] at hu_; rcases hu_ with rfl | rfl | rfl <;> rfl) HS417 (Nat.le_of_ble_eq_true rfl) (by kernel_rfl) ?_)
            intro W418 HS419
            refine seqS1 (a' := ⟨#[.agg #[iV c1.W, iV c1.H, .slice A2 c1.At.length c3], .agg #[iV b5.Lo, iV b5.Hi, .bool b5.Unknown], .pointer (some ⟨b8, 0, none⟩), .pointer (some ⟨b12, 0, none⟩), .pointer (some ⟨b16, 0, none⟩), iV 0, iV vt24, iV vt42, .pointer (some ⟨b131, 0, none⟩), uV, (j394 0), (j394 1), .agg #[iV c1.W, iV c1.H, .slice A2 c1.At.length c3], iV vt24, iV vt24, .bool false, uV, uV, .agg #[iV b5.Lo, iV b5.Hi, .bool b5.Unknown], iV vt42, iV vt42, .bool false, .bool false, .pointer (some ⟨b12, 0, none⟩), iV b5.Lo, .bool false, .bool false, .bool false, .pointer (some ⟨b12, 1, none⟩), iV b5.Hi, .bool false, .bool false, uV, uV, uV, uV, .pointer (some ⟨b8, 0, none⟩), iV c1.W, .pointer (some ⟨b8, 1, none⟩), iV c1.H, .agg #[iV c1.W, iV c1.H, .slice none 0 0], .pointer (some ⟨b8, 2, none⟩), .slice A2 c1.At.length c3, iV (c1.At.length : Int), (j394 2), (j394 3), (j394 4), (j394 5), (j394 6), (j394 7), (j394 8), (j394 9), (j394 10), (j394 11), (j394 12), (j394 13), (j394 14), (j394 15), (j394 16), (j394 17), (j394 18), (j394 19), (j394 20), (j394 21), .agg #[iV c1.W, iV c1.H, .slice A396 x395.length c397]], []⟩) (by kernel_rfl) ?_
            refine wpList_nil ?_
            refine hK416 _ _ ?_
            refine wp_ret ?_
            refine hret _ _ ?_
            refine ends (v := Value.tuple #[.agg #[.int .i64 c1.W, .int .i64 c1.H, .slice A396 x395.length c397], .int .i64 0]) (results2 (q1 := .cell 4 34) (q2 := .tmp 5) (by kernel_rfl) (resN (n := 3) (cs := [.int .i64 c1.W, .int .i64 c1.H, .slice A396 x395.length c397]) (by kernel_rfl : _ = Value.pointer (some ⟨b16, 0, none⟩)) Try.underlying34 rfl (by kernel_rfl) rfl (HS419.cells 0 3 _ rfl)) (resT (by kernel_rfl : _ = Value.int .i64 0))) (by kernel_rfl) ?_
            have HS458 := HS419.u1
            have HS459 := HS458.u4
            have HS460 := HS459.u4
            have HS461 := HS460.u4
            have HS462 := HS461.u4
            have HS463 := HS462.drop
            have HS464 := HS463.drop
            have HS465 := HS464.drop
            have HS466 := HS465.drop
            injection h with h
            injection h with h0_ h
            subst h0_ h
            exact ⟨f390, A396, c397, s398, rfl, (L27.trans (L45.trans L391)), HS466, HO399⟩
          clear h; have h := hv401; clear hv401
          have HS404 := HS136.cons_nil
          refine loopK (fun n_ a_ w_ => ∃ (f270 : FM) (A277 : Option Addr) (c278 : Nat) (s279 : Seg) (x275 : Int) (x276 : List S_Bound) (j274 : Nat → Value), FM.le f44 f270 ∧ St t w_ f270 (s279 :: [(b131, .cells #[.int .i64 c1.W, .int .i64 c1.H, .slice A277 x276.length c278] 34 (0, 0))] :: [(b16, .cells #[.int .i64 0, .int .i64 0, .slice none 0 0] 34 (0, 0))] :: [(b12, .cells #[.int .i64 b5.Lo, .int .i64 b5.Hi, .bool b5.Unknown] 44 (0, 0))] :: [(b8, .cells #[.int .i64 c1.W, .int .i64 c1.H, .slice A2 c1.At.length c3] 34 (0, 0))] :: H) ∧ Own ty_Bound 44 f270 A277 c278 s279 x276 ∧ level_Subtract.l0 k c1 b5 n_ x275 x276 = some o266 ∧ a_ = ⟨#[.agg #[iV c1.W, iV c1.H, .slice A2 c1.At.length c3], .agg #[iV b5.Lo, iV b5.Hi, .bool b5.Unknown], .pointer (some ⟨b8, 0, none⟩), .pointer (some ⟨b12, 0, none⟩), .pointer (some ⟨b16, 0, none⟩), iV 0, iV vt24, iV vt42, .pointer (some ⟨b131, 0, none⟩), uV, (j274 0), (j274 1), .agg #[iV c1.W, iV c1.H, .slice A2 c1.At.length c3], iV vt24, iV vt24, .bool false, uV, uV, .agg #[iV b5.Lo, iV b5.Hi, .bool b5.Unknown], iV vt42, iV vt42, .bool false, .bool false, .pointer (some ⟨b12, 0, none⟩), iV b5.Lo, .bool false, .bool false, .bool false, .pointer (some ⟨b12, 1, none⟩), iV b5.Hi, .bool false, .bool false, uV, uV, uV, uV, .pointer (some ⟨b8, 0, none⟩), iV c1.W, .pointer (some ⟨b8, 1, none⟩), iV c1.H, .agg #[iV c1.W, iV c1.H, .slice none 0 0], .pointer (some ⟨b8, 2, none⟩), .slice A2 c1.At.length c3, iV (c1.At.length : Int), iV x275, (j274 2), (j274 3), (j274 4), (j274 5), (j274 6), (j274 7), (j274 8), (j274 9), (j274 10), (j274 11), (j274 12), (j274 13), (j274 14), (j274 15), (j274 16), (j274 17), (j274 18), (j274 19), (j274 20), uV], []⟩) k ⟨f44, none, 0, [], 0, ([] : List S_Bound), (fun i_ => [undef, undef, undef, undef, undef, undef, undef, undef, undef, undef, undef, undef, undef, undef, undef, undef, undef, undef, undef, undef, undef].getD i_ undef), (FM.le.refl _), HS404, (Own.nil _), h, (by kernel_rfl)⟩ ?_
          clear h
          rintro n269 _ W272 ⟨f270, A277, c278, s279, x275, x276, j274, L271, HS273, HO280, h, rfl⟩ K267 hK268
          obtain _ | n269 := n269
          · exact nomatch h
          simp only [level_Subtract.l0] at h
          refine wp_seq_k (fun K282 hK283 => ?_)
          refine wp_region_lit ?_
          refine seqS1 (a' := ⟨#[.agg #[iV c1.W, iV c1.H, .slice A2 c1.At.length c3], .agg #[iV b5.Lo, iV b5.Hi, .bool b5.Unknown], .pointer (some ⟨b8, 0, none⟩), .pointer (some ⟨b12, 0, none⟩), .pointer (some ⟨b16, 0, none⟩), iV 0, iV vt24, iV vt42, .pointer (some ⟨b131, 0, none⟩), uV, (j274 0), (j274 1), .agg #[iV c1.W, iV c1.H, .slice A2 c1.At.length c3], iV vt24, iV vt24, .bool false, uV, uV, .agg #[iV b5.Lo, iV b5.Hi, .bool b5.Unknown], iV vt42, iV vt42, .bool false, .bool false, .pointer (some ⟨b12, 0, none⟩), iV b5.Lo, .bool false, .bool false, .bool false, .pointer (some ⟨b12, 1, none⟩), iV b5.Hi, .bool false, .bool false, uV, uV, uV, uV, .pointer (some ⟨b8, 0, none⟩), iV c1.W, .pointer (some ⟨b8, 1, none⟩), iV c1.H, .agg #[iV c1.W, iV c1.H, .slice none 0 0], .pointer (some ⟨b8, 2, none⟩), .slice A2 c1.At.length c3, iV (c1.At.length : Int), iV x275, .bool (decide (x275 < (c1.At.length : Int))), (j274 3), (j274 4), (j274 5), (j274 6), (j274 7), (j274 8), (j274 9), (j274 10), (j274 11), (j274 12), (j274 13), (j274 14), (j274 15), (j274 16), (j274 17), (j274 18), (j274 19), (j274 20), uV], []⟩) (by kernel_rfl) ?_
          refine wpList_nil ?_
          refine hK283 _ _ ?_
          refine wp_seq_k (fun K284 hK285 => ?_)
          have hq_ := ite_some h; clear h; rcases hq_ with ⟨c287, h⟩ | ⟨c287, h⟩
          · have c287 : x275 < (c1.At.length : Int) := c287
            refine wpRwI 45 (x := (decide (x275 < (c1.At.length : Int)))) (v := true) (by kernel_rfl) (decide_eq_true c287) ?_
            refine condT (by kernel_rfl) ?_
            refine wp_skip ?_
            refine hK285 _ _ ?_
            refine wp_seq_k (fun K288 hK289 => ?_)
            refine blockK (fun B290 hx291 hn292 hr293 ho294 hp295 => ?_)
            refine wp_seq_k (fun K297 hK298 => ?_)
            refine wp_region_lit ?_
            have hq_ := guard_some h; clear h; obtain ⟨c299, h⟩ := hq_
            have c299 : 0 ≤ x275 := c299
            obtain ⟨b303, of304, cs300, hA305, hr301, hc302⟩ := (HR4.mono (L27.trans (L45.trans L271))).at (i := x275) c299 c287
            obtain rfl := hr301
            refine seqK rfl (does_run (run_indexE hA305 (sz := 3) rfl Try.underlying32 (by kernel_rfl) (by kernel_rfl : _ = Value.slice A2 c1.At.length c3) (by kernel_rfl : _ = Value.int .i64 x275) c299 c287 W272) ?_)
            refine seqK rfl (does_run (run_loadN (n := 3) rfl Try.underlying44 rfl (by kernel_rfl) (by kernel_rfl : _ = Value.pointer (some ⟨b303, of304 + (x275 : Int).toNat * 3, none⟩)) (cs := [.int .i64 ((rd c1.At x275).Lo), .int .i64 ((rd c1.At x275).Hi), .bool ((rd c1.At x275).Unknown)]) rfl (fun j_ hj_ => ((hc302 (FM.le.refl _) HS273) j_ hj_))) ?_)
            refine seqK rfl (does_alloc (z := Value.agg #[.int .i64 0, .int .i64 0, .bool false]) (cs := #[.int .i64 0, .int .i64 0, .bool false]) rfl (by kernel_rfl) rfl HS273 ?_)
            intro b306 W307 HS308
            refine seqK rfl (does_store (n := 3) (vs := [.int .i64 ((rd c1.At x275).Lo), .int .i64 ((rd c1.At x275).Hi), .bool ((rd c1.At x275).Unknown)]) (cs' := #[.int .i64 ((rd c1.At x275).Lo), .int .i64 ((rd c1.At x275).Hi), .bool ((rd c1.At x275).Unknown)]) rfl (by kernel_rfl) (by kernel_rfl : _ = Value.pointer (some ⟨b306, 0, none⟩)) (by kernel_rfl : _ = Value.agg #[.int .i64 ((rd c1.At x275).Lo), .int .i64 ((rd c1.At x275).Hi), .bool ((rd c1.At x275).Unknown)]) rfl rfl (by intro u_ hu_; simp only [List.mem_cons, List.not_mem_nil, or_false] at hu_; rcases hu_ with rfl | rfl | rfl <;> rfl) HS308 (Nat.le_of_ble_eq_true rfl) (by kernel_rfl) ?_)
            intro W310 HS311
            refine wpList_nil ?_
            refine hK298 _ _ ?_
            refine wp_seq_k (fun K312 hK313 => ?_)
            refine wp_region_lit ?_
            refine seqK rfl (does_run (run_loadN (n := 3) rfl Try.underlying44 rfl (by kernel_rfl) (by kernel_rfl : _ = Value.pointer (some ⟨b306, 0, none⟩)) (cs := [.int .i64 ((rd c1.At x275).Lo), .int .i64 ((rd c1.At x275).Hi), .bool ((rd c1.At x275).Unknown)]) rfl (HS311.cells 0 3 _ rfl)) ?_)
            refine seqK rfl (does_run (run_loadN (n := 3) rfl Try.underlying44 rfl (by kernel_rfl) (by kernel_rfl : _ = Value.pointer (some ⟨b12, 0, none⟩)) (cs := [.int .i64 b5.Lo, .int .i64 b5.Hi, .bool b5.Unknown]) rfl (HS311.u4.cells 0 3 _ rfl)) ?_)
            have hq_ := bind_some h; clear h; obtain ⟨vt314, hc315, h⟩ := hq_
            refine seqK rfl (does_call (f := 73) (args := #[.agg #[.int .i64 ((rd c1.At x275).Lo), .int .i64 ((rd c1.At x275).Hi), .bool ((rd c1.At x275).Unknown)], .agg #[.int .i64 b5.Lo, .int .i64 b5.Hi, .bool b5.Unknown]]) (by kernel_rfl) (bound_Sub_Quanta.calls k (rd c1.At x275) b5 HS311 vt314 hc315) ?_)
            rintro _ W318 ⟨f316, rfl, L317, HS319⟩
            refine ⟨_, rfl, ?_⟩
            refine seqK rfl (does_alloc (z := Value.agg #[.int .i64 0, .int .i64 0, .bool false]) (cs := #[.int .i64 0, .int .i64 0, .bool false]) rfl (by kernel_rfl) rfl HS319 ?_)
            intro b320 W321 HS322
            refine seqK rfl (does_store (n := 3) (vs := [.int .i64 vt314.Lo, .int .i64 vt314.Hi, .bool vt314.Unknown]) (cs' := #[.int .i64 vt314.Lo, .int .i64 vt314.Hi, .bool vt314.Unknown]) rfl (by kernel_rfl) (by kernel_rfl : _ = Value.pointer (some ⟨b320, 0, none⟩)) (by kernel_rfl : _ = Value.agg #[.int .i64 vt314.Lo, .int .i64 vt314.Hi, .bool vt314.Unknown]) rfl rfl (by intro u_ hu_; simp only [List.mem_cons, List.not_mem_nil, or_false] at hu_; rcases hu_ with rfl | rfl | rfl <;> rfl) HS322 (Nat.le_of_ble_eq_true rfl) (by kernel_rfl) ?_)
            intro W324 HS325
            refine wpList_nil ?_
            refine hK313 _ _ ?_
            refine wp_seq_k (fun K326 hK327 => ?_)
            refine wp_seq_k (fun K328 hK329 => ?_)
            refine wp_region_lit ?_
            refine seqL1 (by kernel_rfl) ?_
            refine seqK rfl (does_run (run_load rfl Try.underlying42 rfl (by kernel_rfl : _ = Value.pointer (some ⟨b320, 1, none⟩)) (HS325.cell 1)) ?_)
            refine seqS1 (a' := ⟨#[.agg #[iV c1.W, iV c1.H, .slice A2 c1.At.length c3], .agg #[iV b5.Lo, iV b5.Hi, .bool b5.Unknown], .pointer (some ⟨b8, 0, none⟩), .pointer (some ⟨b12, 0, none⟩), .pointer (some ⟨b16, 0, none⟩), iV 0, iV vt24, iV vt42, .pointer (some ⟨b131, 0, none⟩), uV, .pointer (some ⟨b306, 0, none⟩), .pointer (some ⟨b320, 0, none⟩), .agg #[iV c1.W, iV c1.H, .slice A2 c1.At.length c3], iV vt24, iV vt24, .bool false, uV, uV, .agg #[iV b5.Lo, iV b5.Hi, .bool b5.Unknown], iV vt42, iV vt42, .bool false, .bool false, .pointer (some ⟨b12, 0, none⟩), iV b5.Lo, .bool false, .bool false, .bool false, .pointer (some ⟨b12, 1, none⟩), iV b5.Hi, .bool false, .bool false, uV, uV, uV, uV, .pointer (some ⟨b8, 0, none⟩), iV c1.W, .pointer (some ⟨b8, 1, none⟩), iV c1.H, .agg #[iV c1.W, iV c1.H, .slice none 0 0], .pointer (some ⟨b8, 2, none⟩), .slice A2 c1.At.length c3, iV (c1.At.length : Int), iV x275, .bool true, .pointer (some ⟨b303, of304 + (x275 : Int).toNat * 3, none⟩), .agg #[iV ((rd c1.At x275).Lo), iV ((rd c1.At x275).Hi), .bool ((rd c1.At x275).Unknown)], .agg #[iV ((rd c1.At x275).Lo), iV ((rd c1.At x275).Hi), .bool ((rd c1.At x275).Unknown)], .agg #[iV b5.Lo, iV b5.Hi, .bool b5.Unknown], .agg #[iV vt314.Lo, iV vt314.Hi, .bool vt314.Unknown], .pointer (some ⟨b320, 1, none⟩), iV vt314.Hi, .bool (decide (vt314.Hi < 0)), (j274 11), (j274 12), (j274 13), (j274 14), (j274 15), (j274 16), (j274 17), (j274 18), (j274 19), (j274 20), uV], []⟩) (by kernel_rfl) ?_
            refine wpList_nil ?_
            refine hK329 _ _ ?_
            have hq_ := bind_some h; clear h; obtain ⟨v330, hv348, h⟩ := hq_
            have J349 : ∀ (f340 : FM) (x345 : Int) (x346 : Int) (x347 : Bool) (j344 : Nat → Value) (W342 : World) (a_ : Act), FM.le f316 f340 → some ((x345, x346, x347)) = some v330 → St t W342 f340 ([(b320, .cells #[.int .i64 x345, .int .i64 x346, .bool x347] 44 (0, 0))] :: [(b306, .cells #[.int .i64 ((rd c1.At x275).Lo), .int .i64 ((rd c1.At x275).Hi), .bool ((rd c1.At x275).Unknown)] 44 (0, 0))] :: s279 :: [(b131, .cells #[.int .i64 c1.W, .int .i64 c1.H, .slice A277 x276.length c278] 34 (0, 0))] :: [(b16, .cells #[.int .i64 0, .int .i64 0, .slice none 0 0] 34 (0, 0))] :: [(b12, .cells #[.int .i64 b5.Lo, .int .i64 b5.Hi, .bool b5.Unknown] 44 (0, 0))] :: [(b8, .cells #[.int .i64 c1.W, .int .i64 c1.H, .slice A2 c1.At.length c3] 34 (0, 0))] :: H) → a_ = ⟨#[.agg #[iV c1.W, iV c1.H, .slice A2 c1.At.length c3], .agg #[iV b5.Lo, iV b5.Hi, .bool b5.Unknown], .pointer (some ⟨b8, 0, none⟩), .pointer (some ⟨b12, 0, none⟩), .pointer (some ⟨b16, 0, none⟩), iV 0, iV vt24, iV vt42, .pointer (some ⟨b131, 0, none⟩), uV, .pointer (some ⟨b306, 0, none⟩), .pointer (some ⟨b320, 0, none⟩), .agg #[iV c1.W, iV c1.H, .slice A2 c1.At.length c3], iV vt24, iV vt24, .bool false, uV, uV, .agg #[iV b5.Lo, iV b5.Hi, .bool b5.Unknown], iV vt42, iV vt42, .bool false, .bool false, .pointer (some ⟨b12, 0, none⟩), iV b5.Lo, .bool false, .bool false, .bool false, .pointer (some ⟨b12, 1, none⟩), iV b5.Hi, .bool false, .bool false, uV, uV, uV, uV, .pointer (some ⟨b8, 0, none⟩), iV c1.W, .pointer (some ⟨b8, 1, none⟩), iV c1.H, .agg #[iV c1.W, iV c1.H, .slice none 0 0], .pointer (some ⟨b8, 2, none⟩), .slice A2 c1.At.length c3, iV (c1.At.length : Int), iV x275, .bool true, .pointer (some ⟨b303, of304 + (x275 : Int).toNat * 3, none⟩), .agg #[iV ((rd c1.At x275).Lo), iV ((rd c1.At x275).Hi), .bool ((rd c1.At x275).Unknown)], .agg #[iV ((rd c1.At x275).Lo), iV ((rd c1.At x275).Hi), .bool ((rd c1.At x275).Unknown)], .agg #[iV b5.Lo, iV b5.Hi, .bool b5.Unknown], .agg #[iV vt314.Lo, iV vt314.Hi, .bool vt314.Unknown], .pointer (some ⟨b320, 1, none⟩), iV vt314.Hi, (j344 0), (j344 1), (j274 12), (j274 13), (j274 14), (j274 15), (j274 16), (j274 17), (j274 18), (j274 19), (j274 20), uV], []⟩ → K326 a_ W342 := by
              intro f340 x345 x346 x347 j344 W342 a_ L341 hj350 HS343  hfr_; subst hfr_
              injection hj350 with hj350; subst hj350; try dsimp only at h
              refine hK327 _ _ ?_
              have HS351 := HS343.u6
              have HS352 := HS351.u6
              have HS353 := HS352.u6
              have HS354 := HS353.u4
              have HS355 := HS354.u4
              have HS356 := HS355.u6
              have HS357 := HS356.u6
              refine heldG (S := Sg t f340 ([(b320, .cells #[.int .i64 x345, .int .i64 x346, .bool x347] 44 (0, 0))] :: [(b306, .cells #[.int .i64 ((rd c1.At x275).Lo), .int .i64 ((rd c1.At x275).Hi), .bool ((rd c1.At x275).Unknown)] 44 (0, 0))] :: [(b16, .cells #[.int .i64 0, .int .i64 0, .slice none 0 0] 34 (0, 0))] :: [(b12, .cells #[.int .i64 b5.Lo, .int .i64 b5.Hi, .bool b5.Unknown] 44 (0, 0))] :: [(b8, .cells #[.int .i64 c1.W, .int .i64 c1.H, .slice A2 c1.At.length c3] 34 (0, 0))] :: H) [(6, s279), (6, [(b131, .cells #[.int .i64 c1.W, .int .i64 c1.H, .slice A277 x276.length c278] 34 (0, 0))])]) (n := 9) (by kernel_rfl) rfl HS357 ?_
              intro W358 HS359
              refine takeG [0] (n := 9) (fuel := 8) (l' := #[true, false, false, false, false, false, false, false, false]) (a' := ⟨#[.agg #[iV c1.W, iV c1.H, .slice A2 c1.At.length c3], .agg #[iV b5.Lo, iV b5.Hi, .bool b5.Unknown], .pointer (some ⟨b8, 0, none⟩), .pointer (some ⟨b12, 0, none⟩), .pointer (some ⟨b16, 0, none⟩), iV 0, iV vt24, iV vt42, .pointer (some ⟨b131, 0, none⟩), uV, .pointer (some ⟨b306, 0, none⟩), .pointer (some ⟨b320, 0, none⟩), .agg #[iV c1.W, iV c1.H, .slice A2 c1.At.length c3], iV vt24, iV vt24, .bool false, uV, uV, .agg #[iV b5.Lo, iV b5.Hi, .bool b5.Unknown], iV vt42, iV vt42, .bool false, .bool false, .pointer (some ⟨b12, 0, none⟩), iV b5.Lo, .bool false, .bool false, .bool false, .pointer (some ⟨b12, 1, none⟩), iV b5.Hi, .bool false, .bool false, uV, uV, uV, uV, .pointer (some ⟨b8, 0, none⟩), iV c1.W, .pointer (some ⟨b8, 1, none⟩), iV c1.H, .agg #[iV c1.W, iV c1.H, .slice none 0 0], .pointer (some ⟨b8, 2, none⟩), .slice A2 c1.At.length c3, iV (c1.At.length : Int), iV x275, .bool true, .pointer (some ⟨b303, of304 + (x275 : Int).toNat * 3, none⟩), .agg #[iV ((rd c1.At x275).Lo), iV ((rd c1.At x275).Hi), .bool ((rd c1.At x275).Unknown)], .agg #[iV ((rd c1.At x275).Lo), iV ((rd c1.At x275).Hi), .bool ((rd c1.At x275).Unknown)], .agg #[iV b5.Lo, iV b5.Hi, .bool b5.Unknown], .agg #[iV vt314.Lo, iV vt314.Hi, .bool vt314.Unknown], .pointer (some ⟨b320, 1, none⟩), iV vt314.Hi, (j344 0), (j344 1), .pointer (some ⟨b131, 2, none⟩), (j274 13), (j274 14), (j274 15), (j274 16), (j274 17), (j274 18), (j274 19), (j274 20), uV], []⟩) rfl (by kernel_rfl) (by kernel_rfl) (by kernel_rfl) (fun ch_ a_ w_ q_ => (fun ch_ a_ w_ q_ => hnp ch_ a_ w_ (hp146 ch_ a_ w_ q_)) ch_ a_ w_ (hp295 ch_ a_ w_ q_)) (Sg.g2 (Sx.of [s279, [(b131, .cells #[.int .i64 c1.W, .int .i64 c1.H, .slice A277 x276.length c278] 34 (0, 0))]] (FM.le.refl _) HS359) (fun _ => St.only [] HS359 (FM.le.refl _)) (fun _ => St.only [s279] HS359 (FM.le.refl _))) ?_
              refine takeGQ 1 [6] rfl (by kernel_rfl) (by kernel_rfl) (by kernel_rfl) (by kernel_rfl) (by kernel_rfl) (by kernel_rfl) (fun ch_ a_ w_ q_ => (fun ch_ a_ w_ q_ => hnp ch_ a_ w_ (hp146 ch_ a_ w_ q_)) ch_ a_ w_ (hp295 ch_ a_ w_ q_)) (Sg.g2 (Sx.of [s279, [(b131, .cells #[.int .i64 c1.W, .int .i64 c1.H, .slice A277 x276.length c278] 34 (0, 0))]] (FM.le.refl _) HS359) (fun _ => St.only [] HS359 (FM.le.refl _)) (fun _ => St.only [s279] HS359 (FM.le.refl _))) (fun w_ hw_ => by obtain ⟨g_, hl_, hS_⟩ := hw_.seg (j := 6) (s := [(b131, .cells #[.int .i64 c1.W, .int .i64 c1.H, .slice A277 x276.length c278] 34 (0, 0))]) (by simp) (by simp); exact run_load rfl Try.underlying32 rfl (by kernel_rfl : _ = Value.pointer (some ⟨b131, 2, none⟩)) (hS_.cell 2)) ?_
              refine takeGQ 2 [] rfl (by kernel_rfl) (by kernel_rfl) (by kernel_rfl) (by kernel_rfl) (by kernel_rfl) (by kernel_rfl) (fun ch_ a_ w_ q_ => (fun ch_ a_ w_ q_ => hnp ch_ a_ w_ (hp146 ch_ a_ w_ q_)) ch_ a_ w_ (hp295 ch_ a_ w_ q_)) (Sg.g2 (Sx.of [s279, [(b131, .cells #[.int .i64 c1.W, .int .i64 c1.H, .slice A277 x276.length c278] 34 (0, 0))]] (FM.le.refl _) HS359) (fun _ => St.only [] HS359 (FM.le.refl _)) (fun _ => St.only [s279] HS359 (FM.le.refl _))) (fun w_ hw_ => by obtain ⟨g_, hl_, hS_⟩ := hw_.st; exact run_loadN (n := 3) rfl Try.underlying44 rfl (by kernel_rfl) (by kernel_rfl : _ = Value.pointer (some ⟨b320, 0, none⟩)) (cs := [.int .i64 x345, .int .i64 x346, .bool x347]) rfl (hS_.cells 0 3 _ rfl)) ?_
              have hq_ := bind_some h; clear h; obtain ⟨vt360, hc361, h⟩ := hq_
              refine takeGE 3 (by kernel_rfl) rfl (by kernel_rfl) (does_call (f := 30) (args := #[.int .i64 0]) (by kernel_rfl) (bound_Exact_Quanta.calls k 0 HS359 vt360 hc361) ?_)
              rintro _ W364 ⟨f362, rfl, L363, HS365⟩
              refine ⟨_, rfl, ?_⟩
              refine ⟨(Sg.g2 (Sx.of [s279, [(b131, .cells #[.int .i64 c1.W, .int .i64 c1.H, .slice A277 x276.length c278] 34 (0, 0))]] L363 HS365) (fun _ => St.only [] HS365 L363) (fun _ => St.only [s279] HS365 L363)), ?_⟩
              have hq_ := bind_some h; clear h; obtain ⟨vt366, hc367, h⟩ := hq_
              refine takeGE 4 (by kernel_rfl) rfl (by kernel_rfl) (does_call (f := 74) (args := #[.agg #[.int .i64 x345, .int .i64 x346, .bool x347], .agg #[.int .i64 vt360.Lo, .int .i64 vt360.Hi, .bool vt360.Unknown]]) (by kernel_rfl) (bound_Max_Quanta.calls k (⟨x345, x346, x347⟩ : S_Bound) vt360 HS365 vt366 hc367) ?_)
              rintro _ W370 ⟨f368, rfl, L369, HS371⟩
              refine ⟨_, rfl, ?_⟩
              refine ⟨(Sg.g2 (Sx.of [s279, [(b131, .cells #[.int .i64 c1.W, .int .i64 c1.H, .slice A277 x276.length c278] 34 (0, 0))]] (L363.trans L369) HS371) (fun _ => St.only [] HS371 (L363.trans L369)) (fun _ => St.only [s279] HS371 (L363.trans L369))), ?_⟩
              refine takeGE 5 (by kernel_rfl) rfl (by kernel_rfl) (does_lit (e := ty_Bound) (E := 44) (vs := #[(0, Value.agg #[.int .i64 vt366.Lo, .int .i64 vt366.Hi, .bool vt366.Unknown])]) (cs := #[.int .i64 vt366.Lo, .int .i64 vt366.Hi, .bool vt366.Unknown]) (xs := ([vt366] : List S_Bound)) rfl Try.underlying32 (by kernel_rfl) (by kernel_rfl) ⟨[.int .i64 vt366.Lo, .int .i64 vt366.Hi, .bool vt366.Unknown], _, rfl, rfl, rfl⟩ rfl HS371 ?_ (by decide))
              intro b372 W373 s374 HS375 _ HO376
              refine ⟨(Sg.g2 (Sx.of [s374, s279, [(b131, .cells #[.int .i64 c1.W, .int .i64 c1.H, .slice A277 x276.length c278] 34 (0, 0))]] (L363.trans L369) HS375) (fun _ => St.only [s374] HS375 (L363.trans L369)) (fun _ => St.only [s374, s279] HS375 (L363.trans L369))), ?_⟩
              have hq_ := guard_some h; clear h; obtain ⟨c378, h⟩ := hq_
              have c378 : (x276.length + 1) * 24 ≤ 140737488355328 := c378
              have HS379 := HS375.u1
              have HS380 := HS379.u1
              refine takeGE 6 (by kernel_rfl) rfl (by kernel_rfl) (does_append1 (e := ty_Bound) (E := 44) (xs := x276) (ys := ([vt366] : List S_Bound)) rfl (by kernel_rfl : _ = Value.slice A277 x276.length c278) (by kernel_rfl : _ = Value.slice (some ⟨b372, 0, none⟩) ([vt366] : List S_Bound).length 1) Try.underlying32 inf44 (HO280.mono (L317.trans (L341.trans (L363.trans L369)))) HO376 HS380 c378 (lim63 c378 (by decide)) ?_)
              intro A381 c382 s383 W384 HS385 HO386
              refine ⟨(Sg.g2 (Sx.of [s383, [(b131, .cells #[.int .i64 c1.W, .int .i64 c1.H, .slice A277 x276.length c278] 34 (0, 0))]] (L363.trans L369) HS385) (fun hl_ => Bool.noConfusion (show true = false from hl_)) (fun hl_ => Bool.noConfusion (show true = false from hl_))), ?_⟩
              refine takeG [7] (n := 2) (fuel := 1) (l' := #[true, true, true, true, true, true, true, true, false]) (a' := ⟨#[.agg #[iV c1.W, iV c1.H, .slice A2 c1.At.length c3], .agg #[iV b5.Lo, iV b5.Hi, .bool b5.Unknown], .pointer (some ⟨b8, 0, none⟩), .pointer (some ⟨b12, 0, none⟩), .pointer (some ⟨b16, 0, none⟩), iV 0, iV vt24, iV vt42, .pointer (some ⟨b131, 0, none⟩), uV, .pointer (some ⟨b306, 0, none⟩), .pointer (some ⟨b320, 0, none⟩), .agg #[iV c1.W, iV c1.H, .slice A2 c1.At.length c3], iV vt24, iV vt24, .bool false, uV, uV, .agg #[iV b5.Lo, iV b5.Hi, .bool b5.Unknown], iV vt42, iV vt42, .bool false, .bool false, .pointer (some ⟨b12, 0, none⟩), iV b5.Lo, .bool false, .bool false, .bool false, .pointer (some ⟨b12, 1, none⟩), iV b5.Hi, .bool false, .bool false, uV, uV, uV, uV, .pointer (some ⟨b8, 0, none⟩), iV c1.W, .pointer (some ⟨b8, 1, none⟩), iV c1.H, .agg #[iV c1.W, iV c1.H, .slice none 0 0], .pointer (some ⟨b8, 2, none⟩), .slice A2 c1.At.length c3, iV (c1.At.length : Int), iV x275, .bool true, .pointer (some ⟨b303, of304 + (x275 : Int).toNat * 3, none⟩), .agg #[iV ((rd c1.At x275).Lo), iV ((rd c1.At x275).Hi), .bool ((rd c1.At x275).Unknown)], .agg #[iV ((rd c1.At x275).Lo), iV ((rd c1.At x275).Hi), .bool ((rd c1.At x275).Unknown)], .agg #[iV b5.Lo, iV b5.Hi, .bool b5.Unknown], .agg #[iV vt314.Lo, iV vt314.Hi, .bool vt314.Unknown], .pointer (some ⟨b320, 1, none⟩), iV vt314.Hi, (j344 0), (j344 1), .pointer (some ⟨b131, 2, none⟩), .slice A277 x276.length c278, .agg #[iV x345, iV x346, .bool x347], .agg #[iV vt360.Lo, iV vt360.Hi, .bool vt360.Unknown], .agg #[iV vt366.Lo, iV vt366.Hi, .bool vt366.Unknown], .slice (some ⟨b372, 0, none⟩) ([vt366] : List S_Bound).length 1, .slice A381 (x276 ++ ([vt366] : List S_Bound)).length c382, .pointer (some ⟨b131, 2, none⟩), (j274 20), uV], []⟩) rfl (by kernel_rfl) (by kernel_rfl) (by kernel_rfl) (fun ch_ a_ w_ q_ => (fun ch_ a_ w_ q_ => hnp ch_ a_ w_ (hp146 ch_ a_ w_ q_)) ch_ a_ w_ (hp295 ch_ a_ w_ q_)) (Sg.g2 (Sx.of [s383, [(b131, .cells #[.int .i64 c1.W, .int .i64 c1.H, .slice A277 x276.length c278] 34 (0, 0))]] (L363.trans L369) HS385) (fun hl_ => Bool.noConfusion (show true = false from hl_)) (fun hl_ => Bool.noConfusion (show true = false from hl_))) ?_
              have HS387 := HS385.u1
              refine takeGE 8 (by kernel_rfl) rfl (by kernel_rfl) (does_store (n := 1) (vs := [.slice A381 (x276 ++ ([vt366] : List S_Bound)).length c382]) (cs' := #[.int .i64 c1.W, .int .i64 c1.H, .slice A381 (x276 ++ ([vt366] : List S_Bound)).length c382]) rfl (by kernel_rfl) (by kernel_rfl : _ = Value.pointer (some ⟨b131, 2, none⟩)) (by kernel_rfl : _ = Value.slice A381 (x276 ++ ([vt366] : List S_Bound)).length c382) rfl rfl (by intro u_ hu_; simp only [List.mem_cons, List.not_mem_nil, or_false] at hu_; subst hu_; rfl) HS387 (Nat.le_of_ble_eq_true rfl) (by kernel_rfl) ?_)
              intro W388 HS389
              refine ⟨(Sg.g2 (Sx.of [[(b131, .cells #[.int .i64 c1.W, .int .i64 c1.H, .slice A381 (x276 ++ ([vt366] : List S_Bound)).length c382] 34 (0, 0))], s383] (L363.trans L369) HS389) (fun hl_ => Bool.noConfusion (show true = false from hl_)) (fun hl_ => Bool.noConfusion (show true = false from hl_))), ?_⟩
              refine doneG (by kernel_rfl) ?_ _
              refine hn292 _ _ ?_
              refine hK289 _ _ ?_
              refine wp_region_lit ?_
              refine seqS2 (a' := ⟨#[.agg #[iV c1.W, iV c1.H, .slice A2 c1.At.length c3], .agg #[iV b5.Lo, iV b5.Hi, .bool b5.Unknown], .pointer (some ⟨b8, 0, none⟩), .pointer (some ⟨b12, 0, none⟩), .pointer (some ⟨b16, 0, none⟩), iV 0, iV vt24, iV vt42, .pointer (some ⟨b131, 0, none⟩), uV, .pointer (some ⟨b306, 0, none⟩), .pointer (some ⟨b320, 0, none⟩), .agg #[iV c1.W, iV c1.H, .slice A2 c1.At.length c3], iV vt24, iV vt24, .bool false, uV, uV, .agg #[iV b5.Lo, iV b5.Hi, .bool b5.Unknown], iV vt42, iV vt42, .bool false, .bool false, .pointer (some ⟨b12, 0, none⟩), iV b5.Lo, .bool false, .bool false, .bool false, .pointer (some ⟨b12, 1, none⟩), iV b5.Hi, .bool false, .bool false, uV, uV, uV, uV, .pointer (some ⟨b8, 0, none⟩), iV c1.W, .pointer (some ⟨b8, 1, none⟩), iV c1.H, .agg #[iV c1.W, iV c1.H, .slice none 0 0], .pointer (some ⟨b8, 2, none⟩), .slice A2 c1.At.length c3, iV (c1.At.length : Int), iV (w64 (x275 + 1)), .bool true, .pointer (some ⟨b303, of304 + (x275 : Int).toNat * 3, none⟩), .agg #[iV ((rd c1.At x275).Lo), iV ((rd c1.At x275).Hi), .bool ((rd c1.At x275).Unknown)], .agg #[iV ((rd c1.At x275).Lo), iV ((rd c1.At x275).Hi), .bool ((rd c1.At x275).Unknown)], .agg #[iV b5.Lo, iV b5.Hi, .bool b5.Unknown], .agg #[iV vt314.Lo, iV vt314.Hi, .bool vt314.Unknown], .pointer (some ⟨b320, 1, none⟩), iV vt314.Hi, (j344 0), (j344 1), .pointer (some ⟨b131, 2, none⟩), .slice A277 x276.length c278, .agg #[iV x345, iV x346, .bool x347], .agg #[iV vt360.Lo, iV vt360.Hi, .bool vt360.Unknown], .agg #[iV vt366.Lo, iV vt366.Hi, .bool vt366.Unknown], .slice (some ⟨b372, 0, none⟩) ([vt366] : List S_Bound).length 1, .slice A381 (x276 ++ ([vt366] : List S_Bound)).length c382, .pointer (some ⟨b131, 2, none⟩), iV (w64 (x275 + 1)), uV], []⟩) (by kernel_rfl) ?_
              refine wpList_nil ?_
              refine hK268 n269 _ _ (Nat.lt_succ_self _) ?_
              have HS406 := HS389.u6
              have HS407 := HS406.u6
              have HS408 := HS407.u6
              have HS409 := HS408.u3
              have HS410 := HS409.u4
              have HS411 := HS410.u6
              have HS412 := HS411.u6
              have HS413 := HS412.drop
              have HS414 := HS413.drop
              exact ⟨f368, A381, c382, s383, (w64 (x275 + 1)), (x276 ++ ([vt366] : List S_Bound)), (fun i_ => [Value.pointer (some ⟨b306, 0, none⟩), Value.pointer (some ⟨b320, 0, none⟩), Value.bool true, Value.pointer (some ⟨b303, of304 + (x275 : Int).toNat * 3, none⟩), Value.agg #[.int .i64 ((rd c1.At x275).Lo), .int .i64 ((rd c1.At x275).Hi), .bool ((rd c1.At x275).Unknown)], Value.agg #[.int .i64 ((rd c1.At x275).Lo), .int .i64 ((rd c1.At x275).Hi), .bool ((rd c1.At x275).Unknown)], Value.agg #[.int .i64 b5.Lo, .int .i64 b5.Hi, .bool b5.Unknown], Value.agg #[.int .i64 vt314.Lo, .int .i64 vt314.Hi, .bool vt314.Unknown], Value.pointer (some ⟨b320, 1, none⟩), Value.int .i64 vt314.Hi, (j344 0), (j344 1), Value.pointer (some ⟨b131, 2, none⟩), Value.slice A277 x276.length c278, Value.agg #[.int .i64 x345, .int .i64 x346, .bool x347], Value.agg #[.int .i64 vt360.Lo, .int .i64 vt360.Hi, .bool vt360.Unknown], Value.agg #[.int .i64 vt366.Lo, .int .i64 vt366.Hi, .bool vt366.Unknown], Value.slice (some ⟨b372, 0, none⟩) ([vt366] : List S_Bound).length 1, Value.slice A381 (x276 ++ ([vt366] : List S_Bound)).length c382, Value.pointer (some ⟨b131, 2, none⟩), Value.int .i64 (w64 (x275 + 1))].getD i_ undef), (L271.trans (L317.trans (L341.trans (L363.trans L369)))), HS414, HO386, h, (by kernel_rfl)⟩
            clear h; have h := hv348; clear hv348
            have hq_ := ite_some h; clear h; rcases hq_ with ⟨c331, h⟩ | ⟨c331, h⟩
            · have c331 : vt314.Hi < 0 := c331
              refine wpRwI 53 (x := (decide (vt314.Hi < 0))) (v := true) (by kernel_rfl) (decide_eq_true c331) ?_
              refine condT (by kernel_rfl) ?_
              refine wp_region_lit ?_
              have hq_ := bind_some h; clear h; obtain ⟨vt332, hc333, h⟩ := hq_
              refine seqK rfl (does_call (f := 32) (args := #[]) (by kernel_rfl) (bound_None_Quanta.calls k  HS325 vt332 hc333) ?_)
              rintro _ W336 ⟨f334, rfl, L335, HS337⟩
              refine ⟨_, rfl, ?_⟩
              refine seqK rfl (does_store (n := 3) (vs := [.int .i64 vt332.Lo, .int .i64 vt332.Hi, .bool vt332.Unknown]) (cs' := #[.int .i64 vt332.Lo, .int .i64 vt332.Hi, .bool vt332.Unknown]) rfl (by kernel_rfl) (by kernel_rfl : _ = Value.pointer (some ⟨b320, 0, none⟩)) (by kernel_rfl : _ = Value.agg #[.int .i64 vt332.Lo, .int .i64 vt332.Hi, .bool vt332.Unknown]) rfl rfl (by intro u_ hu_; simp only [List.mem_cons, List.not_mem_nil, or_false] at hu_; rcases hu_ with rfl | rfl | rfl <;> rfl) HS337 (Nat.le_of_ble_eq_true rfl) (by kernel_rfl) ?_)
              intro W338 HS339
              refine wpList_nil ?_
              exact J349 f334 vt332.Lo vt332.Hi vt332.Unknown (fun i_ => [Value.bool true, Value.agg #[.int .i64 vt332.Lo, .int .i64 vt332.Hi, .bool vt332.Unknown]].getD i_ undef) W338 _ L335 h HS339 (by kernel_rfl)
            · have c331 : ¬ (vt314.Hi < 0) := c331
              refine wpRwI 53 (x := (decide (vt314.Hi < 0))) (v := false) (by kernel_rfl) (decide_eq_false c331) ?_
              refine condF (by kernel_rfl) ?_
              refine wp_skip ?_
              exact J349 f316 vt314.Lo vt314.Hi vt314.Unknown (fun i_ => [Value.bool false, (j274 11)].getD i_ undef) W324 _ (FM.le.refl _) h HS325 (by kernel_rfl)
          · have c287 : ¬ (x275 < (c1.At.length : Int)) := c287
            refine wpRwI 45 (x := (decide (x275 < (c1.At.length : Int)))) (v := false) (by kernel_rfl) (decide_eq_false c287) ?_
            refine condF (by kernel_rfl) ?_
            refine wp_exit ?_
            refine hx142 _ _ ?_
            exact J402 f270 A277 c278 s279 x276 (fun i_ => [(j274 0), (j274 1), Value.int .i64 x275, Value.bool false, (j274 3), (j274 4), (j274 5), (j274 6), (j274 7), (j274 8), (j274 9), (j274 10), (j274 11), (j274 12), (j274 13), (j274 14), (j274 15), (j274 16), (j274 17), (j274 18), (j274 19), (j274 20)].getD i_ undef) W272 _ L271 h HS273 HO280 (by kernel_rfl)

set_option maxRecDepth 100000 in
set_option maxHeartbeats 4000000 in
theorem cmp_isNaN_Quanta.calls (k : Nat)  (x1 : Int) {t w : World} {f : FM} {H : List Seg} (HS : St t w f (H)) (r1 : Bool) (h : cmp_isNaN_Quanta k x1 = some r1) :
    Calls Try.prog 100 #[.int .i64 x1] w (fun e w' => ∃ (g : FM), e = .returned (Value.bool r1) ∧ FM.le f g ∧ St t w' g (H)) := by
  unfold cmp_isNaN_Quanta at h
  refine enter Try.func100 rfl (tm := #[iV x1, uV, uV, uV, uV, uV]) (by kernel_rfl) ?_
  intro B hret hnor hnp
  refine wp_seq_k (fun K2 hK3 => ?_)
  refine wp_region_lit ?_
  refine seqS1 (a' := ⟨#[iV x1, uV, .bool false, uV, uV, uV], []⟩) (by kernel_rfl) ?_
  refine wpList_nil ?_
  refine hK3 _ _ ?_
  refine wp_seq_k (fun K4 hK5 => ?_)
  refine wp_region_lit ?_
  refine seqS4 (a' := ⟨#[iV x1, uV, .bool (x1 != x1), iV x1, iV x1, .bool (x1 != x1)], []⟩) (by kernel_rfl) ?_
  refine wpList_nil ?_
  refine hK5 _ _ ?_
  refine wp_ret ?_
  refine hret _ _ ?_
  refine ends_still (v := Value.bool (x1 != x1)) (by kernel_rfl) (by kernel_rfl) ?_
  injection h with h
  subst h
  exact ⟨f, rfl, FM.le.refl _, HS⟩

set_option maxRecDepth 100000 in
set_option maxHeartbeats 4000000 in
theorem cmp_Compare_Quanta.calls (k : Nat)  (x1 : Int) (y2 : Int) {t w : World} {f : FM} {H : List Seg} (HS : St t w f (H)) (r1 : Int) (h : cmp_Compare_Quanta k x1 y2 = some r1) :
    Calls Try.prog 67 #[.int .i64 x1, .int .i64 y2] w (fun e w' => ∃ (g : FM), e = .returned (Value.int .i64 r1) ∧ FM.le f g ∧ St t w' g (H)) := by
  unfold cmp_Compare_Quanta at h
  refine enter Try.func67 rfl (tm := #[iV x1, iV y2, uV, uV, uV, uV, uV, uV, uV, uV, uV, uV, uV, uV, uV, uV, uV, uV, uV, uV]) (by kernel_rfl) ?_
  intro B hret hnor hnp
  refine wp_seq_k (fun K3 hK4 => ?_)
  refine wp_region_lit ?_
  refine seqS1 (a' := ⟨#[iV x1, iV y2, uV, uV, iV 0, uV, uV, uV, uV, uV, uV, uV, uV, uV, uV, uV, uV, uV, uV, uV], []⟩) (by kernel_rfl) ?_
  refine wpList_nil ?_
  refine hK4 _ _ ?_
  refine wp_seq_k (fun K5 hK6 => ?_)
  refine wp_region_lit ?_
  have hq_ := bind_some h; clear h; obtain ⟨vt7, hc8, h⟩ := hq_
  refine seqL1 (by kernel_rfl) ?_
  refine seqK rfl (does_call (f := 100) (args := #[.int .i64 x1]) (by kernel_rfl) (cmp_isNaN_Quanta.calls k x1 HS vt7 hc8) ?_)
  rintro _ W11 ⟨f9, rfl, L10, HS12⟩
  refine ⟨_, rfl, ?_⟩
  refine seqS1 (a' := ⟨#[iV x1, iV y2, uV, uV, iV 0, .bool vt7, uV, iV x1, .bool vt7, uV, uV, uV, uV, uV, uV, uV, uV, uV, uV, uV], []⟩) (by kernel_rfl) ?_
  refine wpList_nil ?_
  refine hK6 _ _ ?_
  refine wp_seq_k (fun K13 hK14 => ?_)
  refine wp_region_lit ?_
  have hq_ := bind_some h; clear h; obtain ⟨vt15, hc16, h⟩ := hq_
  refine seqL1 (by kernel_rfl) ?_
  refine seqK rfl (does_call (f := 100) (args := #[.int .i64 y2]) (by kernel_rfl) (cmp_isNaN_Quanta.calls k y2 HS12 vt15 hc16) ?_)
  rintro _ W19 ⟨f17, rfl, L18, HS20⟩
  refine ⟨_, rfl, ?_⟩
  refine seqS1 (a' := ⟨#[iV x1, iV y2, uV, uV, iV 0, .bool vt7, .bool vt15, iV x1, .bool vt7, iV y2, .bool vt15, uV, uV, uV, uV, uV, uV, uV, uV, uV], []⟩) (by kernel_rfl) ?_
  refine wpList_nil ?_
  refine hK14 _ _ ?_
  refine wp_seq_k (fun K21 hK22 => ?_)
  refine wp_seq_k (fun K23 hK24 => ?_)
  refine wp_region_lit ?_
  refine seqS1 (a' := ⟨#[iV x1, iV y2, uV, uV, iV 0, .bool vt7, .bool vt15, iV x1, .bool vt7, iV y2, .bool vt15, .bool vt7, uV, uV, uV, uV, uV, uV, uV, uV], []⟩) (by kernel_rfl) ?_
  refine wpList_nil ?_
  refine hK24 _ _ ?_
  have hq_ := ite_some h; clear h; rcases hq_ with ⟨c26, h⟩ | ⟨c26, h⟩
  · have c26 : vt7 = true := c26
    refine wpRwI 5 (x := vt7) (v := true) (by kernel_rfl) c26 ?_
    refine wpRwI 8 (x := vt7) (v := true) (by kernel_rfl) c26 ?_
    refine wpRwI 11 (x := vt7) (v := true) (by kernel_rfl) c26 ?_
    refine condT (by kernel_rfl) ?_
    refine wp_seq_k (fun K27 hK28 => ?_)
    refine wp_seq_k (fun K29 hK30 => ?_)
    refine wp_region_lit ?_
    refine seqS1 (a' := ⟨#[iV x1, iV y2, uV, uV, iV 0, .bool true, .bool vt15, iV x1, .bool true, iV y2, .bool vt15, .bool true, .bool vt15, uV, uV, uV, uV, uV, uV, uV], []⟩) (by kernel_rfl) ?_
    refine wpList_nil ?_
    refine hK30 _ _ ?_
    have hq_ := ite_some h; clear h; rcases hq_ with ⟨c32, h⟩ | ⟨c32, h⟩
    · have c32 : vt15 = true := c32
      refine wpRwI 6 (x := vt15) (v := true) (by kernel_rfl) c32 ?_
      refine wpRwI 10 (x := vt15) (v := true) (by kernel_rfl) c32 ?_
      refine wpRwI 12 (x := vt15) (v := true) (by kernel_rfl) c32 ?_
      refine condT (by kernel_rfl) ?_
      refine wp_seq_k (fun K33 hK34 => ?_)
      refine wp_region_lit ?_
      refine seqS1 (a' := ⟨#[iV x1, iV y2, uV, uV, iV 0, .bool true, .bool true, iV x1, .bool true, iV y2, .bool true, .bool true, .bool true, uV, uV, uV, uV, uV, uV, uV], []⟩) (by kernel_rfl) ?_
      refine wpList_nil ?_
      refine hK34 _ _ ?_
      refine wp_ret ?_
      refine hret _ _ ?_
      refine ends_still (v := Value.int .i64 0) (by kernel_rfl) (by kernel_rfl) ?_
      injection h with h
      subst h
      exact ⟨f17, rfl, (L10.trans L18), HS20⟩
    · have c32 : ¬ (vt15 = true) := c32
      refine wpRwI 6 (x := vt15) (v := false) (by kernel_rfl) (Bool.eq_false_iff.mpr c32) ?_
      refine wpRwI 10 (x := vt15) (v := false) (by kernel_rfl) (Bool.eq_false_iff.mpr c32) ?_
      refine wpRwI 12 (x := vt15) (v := false) (by kernel_rfl) (Bool.eq_false_iff.mpr c32) ?_
      refine condF (by kernel_rfl) ?_
      refine wp_skip ?_
      refine hK28 _ _ ?_
      refine wp_seq_k (fun K35 hK36 => ?_)
      refine wp_region_lit ?_
      refine seqS1 (a' := ⟨#[iV x1, iV y2, uV, uV, iV (-1), .bool true, .bool false, iV x1, .bool true, iV y2, .bool false, .bool true, .bool false, uV, uV, uV, uV, uV, uV, uV], []⟩) (by kernel_rfl) ?_
      refine wpList_nil ?_
      refine hK36 _ _ ?_
      refine wp_ret ?_
      refine hret _ _ ?_
      refine ends_still (v := Value.int .i64 (-1)) (by kernel_rfl) (by kernel_rfl) ?_
      injection h with h
      subst h
      exact ⟨f17, rfl, (L10.trans L18), HS20⟩
  · have c26 : ¬ (vt7 = true) := c26
    refine wpRwI 5 (x := vt7) (v := false) (by kernel_rfl) (Bool.eq_false_iff.mpr c26) ?_
    refine wpRwI 8 (x := vt7) (v := false) (by kernel_rfl) (Bool.eq_false_iff.mpr c26) ?_
    refine wpRwI 11 (x := vt7) (v := false) (by kernel_rfl) (Bool.eq_false_iff.mpr c26) ?_
    refine condF (by kernel_rfl) ?_
    refine wp_skip ?_
    refine hK22 _ _ ?_
    refine wp_seq_k (fun K37 hK38 => ?_)
    refine wp_seq_k (fun K39 hK40 => ?_)
    refine wp_region_lit ?_
    refine seqS1 (a' := ⟨#[iV x1, iV y2, uV, uV, iV 0, .bool false, .bool vt15, iV x1, .bool false, iV y2, .bool vt15, .bool false, uV, .bool vt15, uV, uV, uV, uV, uV, uV], []⟩) (by kernel_rfl) ?_
    refine wpList_nil ?_
    refine hK40 _ _ ?_
    have hq_ := ite_some h; clear h; rcases hq_ with ⟨c42, h⟩ | ⟨c42, h⟩
    · have c42 : vt15 = true := c42
      refine wpRwI 6 (x := vt15) (v := true) (by kernel_rfl) c42 ?_
      refine wpRwI 10 (x := vt15) (v := true) (by kernel_rfl) c42 ?_
      refine wpRwI 13 (x := vt15) (v := true) (by kernel_rfl) c42 ?_
      refine condT (by kernel_rfl) ?_
      refine wp_seq_k (fun K43 hK44 => ?_)
      refine wp_region_lit ?_
      refine seqS1 (a' := ⟨#[iV x1, iV y2, uV, uV, iV 1, .bool false, .bool true, iV x1, .bool false, iV y2, .bool true, .bool false, uV, .bool true, uV, uV, uV, uV, uV, uV], []⟩) (by kernel_rfl) ?_
      refine wpList_nil ?_
      refine hK44 _ _ ?_
      refine wp_ret ?_
      refine hret _ _ ?_
      refine ends_still (v := Value.int .i64 1) (by kernel_rfl) (by kernel_rfl) ?_
      injection h with h
      subst h
      exact ⟨f17, rfl, (L10.trans L18), HS20⟩
    · have c42 : ¬ (vt15 = true) := c42
      refine wpRwI 6 (x := vt15) (v := false) (by kernel_rfl) (Bool.eq_false_iff.mpr c42) ?_
      refine wpRwI 10 (x := vt15) (v := false) (by kernel_rfl) (Bool.eq_false_iff.mpr c42) ?_
      refine wpRwI 13 (x := vt15) (v := false) (by kernel_rfl) (Bool.eq_false_iff.mpr c42) ?_
      refine condF (by kernel_rfl) ?_
      refine wp_skip ?_
      refine hK38 _ _ ?_
      refine wp_seq_k (fun K45 hK46 => ?_)
      refine wp_seq_k (fun K47 hK48 => ?_)
      refine wp_region_lit ?_
      refine seqS3 (a' := ⟨#[iV x1, iV y2, uV, uV, iV 0, .bool false, .bool false, iV x1, .bool false, iV y2, .bool false, .bool false, uV, .bool false, iV x1, iV y2, .bool (decide (x1 < y2)), uV, uV, uV], []⟩) (by kernel_rfl) ?_
      refine wpList_nil ?_
      refine hK48 _ _ ?_
      have hq_ := ite_some h; clear h; rcases hq_ with ⟨c50, h⟩ | ⟨c50, h⟩
      · have c50 : x1 < y2 := c50
        refine wpRwI 16 (x := (decide (x1 < y2))) (v := true) (by kernel_rfl) (decide_eq_true c50) ?_
        refine condT (by kernel_rfl) ?_
        refine wp_seq_k (fun K51 hK52 => ?_)
        refine wp_region_lit ?_
        refine seqS1 (a' := ⟨#[iV x1, iV y2, uV, uV, iV (-1), .bool false, .bool false, iV x1, .bool false, iV y2, .bool false, .bool false, uV, .bool false, iV x1, iV y2, .bool true, uV, uV, uV], []⟩) (by kernel_rfl) ?_
        refine wpList_nil ?_
        refine hK52 _ _ ?_
        refine wp_ret ?_
        refine hret _ _ ?_
        refine ends_still (v := Value.int .i64 (-1)) (by kernel_rfl) (by kernel_rfl) ?_
        injection h with h
        subst h
        exact ⟨f17, rfl, (L10.trans L18), HS20⟩
      · have c50 : ¬ (x1 < y2) := c50
        refine wpRwI 16 (x := (decide (x1 < y2))) (v := false) (by kernel_rfl) (decide_eq_false c50) ?_
        refine condF (by kernel_rfl) ?_
        refine wp_skip ?_
        refine hK46 _ _ ?_
        refine wp_seq_k (fun K53 hK54 => ?_)
        refine wp_seq_k (fun K55 hK56 => ?_)
        refine wp_region_lit ?_
        refine seqS3 (a' := ⟨#[iV x1, iV y2, uV, uV, iV 0, .bool false, .bool false, iV x1, .bool false, iV y2, .bool false, .bool false, uV, .bool false, iV x1, iV y2, .bool false, iV x1, iV y2, .bool (decide (x1 > y2))], []⟩) (by kernel_rfl) ?_
        refine wpList_nil ?_
        refine hK56 _ _ ?_
        have hq_ := ite_some h; clear h; rcases hq_ with ⟨c58, h⟩ | ⟨c58, h⟩
        · have c58 : x1 > y2 := c58
          refine wpRwI 19 (x := (decide (x1 > y2))) (v := true) (by kernel_rfl) (decide_eq_true c58) ?_
          refine condT (by kernel_rfl) ?_
          refine wp_seq_k (fun K59 hK60 => ?_)
          refine wp_region_lit ?_
          refine seqS1 (a' := ⟨#[iV x1, iV y2, uV, uV, iV 1, .bool false, .bool false, iV x1, .bool false, iV y2, .bool false, .bool false, uV, .bool false, iV x1, iV y2, .bool false, iV x1, iV y2, .bool true], []⟩) (by kernel_rfl) ?_
          refine wpList_nil ?_
          refine hK60 _ _ ?_
          refine wp_ret ?_
          refine hret _ _ ?_
          refine ends_still (v := Value.int .i64 1) (by kernel_rfl) (by kernel_rfl) ?_
          injection h with h
          subst h
          exact ⟨f17, rfl, (L10.trans L18), HS20⟩
        · have c58 : ¬ (x1 > y2) := c58
          refine wpRwI 19 (x := (decide (x1 > y2))) (v := false) (by kernel_rfl) (decide_eq_false c58) ?_
          refine condF (by kernel_rfl) ?_
          refine wp_skip ?_
          refine hK54 _ _ ?_
          refine wp_seq_k (fun K61 hK62 => ?_)
          refine wp_region_lit ?_
          refine seqS1 (a' := ⟨#[iV x1, iV y2, uV, uV, iV 0, .bool false, .bool false, iV x1, .bool false, iV y2, .bool false, .bool false, uV, .bool false, iV x1, iV y2, .bool false, iV x1, iV y2, .bool false], []⟩) (by kernel_rfl) ?_
          refine wpList_nil ?_
          refine hK62 _ _ ?_
          refine wp_ret ?_
          refine hret _ _ ?_
          refine ends_still (v := Value.int .i64 0) (by kernel_rfl) (by kernel_rfl) ?_
          injection h with h
          subst h
          exact ⟨f17, rfl, (L10.trans L18), HS20⟩

set_option maxRecDepth 100000 in
set_option maxHeartbeats 4000000 in
theorem level_known_1.calls (k : Nat) (b1 : Nat) (A4 : Option Addr) (c5 : Nat) (v3 : S_Cells) (i7 : Int) (j8 : Int) {t w : World} {f : FM} {H : List Seg} (HS : St t w f ([(b1, .cells #[.int .i64 v3.W, .int .i64 v3.H, .slice A4 v3.At.length c5] 34 (0, 0))] :: H)) (HR6 : SlR ty_Bound f A4 c5 v3.At) (r1 : Int) (h : level_known_1 k v3 i7 j8 = some r1) :
    Calls Try.prog 99 #[.int .i64 i7, .int .i64 j8, .pointer (some ⟨b1, 0, none⟩)] w (fun e w' => ∃ (g : FM), e = .returned (Value.int .i64 r1) ∧ FM.le f g ∧ St t w' g ([(b1, .cells #[.int .i64 v3.W, .int .i64 v3.H, .slice A4 v3.At.length c5] 34 (0, 0))] :: H)) := by
  unfold level_known_1 at h
  refine enter Try.func99 rfl (tm := #[iV i7, iV j8, .pointer (some ⟨b1, 0, none⟩), uV, uV, uV, uV, uV, uV, uV, uV, uV, uV, uV, uV, uV, uV, uV, uV]) (by kernel_rfl) ?_
  intro B hret hnor hnp
  refine wp_seq_k (fun K9 hK10 => ?_)
  refine wp_region_lit ?_
  refine seqS1 (a' := ⟨#[iV i7, iV j8, .pointer (some ⟨b1, 0, none⟩), uV, uV, iV 0, uV, uV, uV, uV, uV, uV, uV, uV, uV, uV, uV, uV, uV], []⟩) (by kernel_rfl) ?_
  refine wpList_nil ?_
  refine hK10 _ _ ?_
  refine wp_seq_k (fun K11 hK12 => ?_)
  refine heldG (S := Sg t f ([(b1, .cells #[.int .i64 v3.W, .int .i64 v3.H, .slice A4 v3.At.length c5] 34 (0, 0))] :: H) []) (n := 14) (by kernel_rfl) rfl HS ?_
  intro W13 HS14
  refine takeG [0] (n := 14) (fuel := 13) (l' := #[true, false, false, false, false, false, false, false, false, false, false, false, false, false]) (a' := ⟨#[iV i7, iV j8, .pointer (some ⟨b1, 0, none⟩), uV, uV, iV 0, .pointer (some ⟨b1, 2, none⟩), uV, uV, uV, uV, uV, uV, uV, uV, uV, uV, uV, uV], []⟩) rfl (by kernel_rfl) (by kernel_rfl) (by kernel_rfl) hnp (Sg.g0 (Sx.of [] (FM.le.refl _) HS14)) ?_
  refine takeGQ 1 [] rfl (by kernel_rfl) (by kernel_rfl) (by kernel_rfl) (by kernel_rfl) (by kernel_rfl) (by kernel_rfl) hnp (Sg.g0 (Sx.of [] (FM.le.refl _) HS14)) (fun w_ hw_ => by obtain ⟨g_, hl_, hS_⟩ := hw_.st; exact run_load rfl Try.underlying32 rfl (by kernel_rfl : _ = Value.pointer (some ⟨b1, 2, none⟩)) (hS_.cell 2)) ?_
  have hq_ := guard_some h; clear h; obtain ⟨c15, h⟩ := hq_
  have c15 : 0 ≤ i7 := c15
  have hq_ := guard_some h; clear h; obtain ⟨c16, h⟩ := hq_
  have c16 : i7 < (v3.At.length : Int) := c16
  obtain ⟨b20, of21, cs17, hA22, hr18, hc19⟩ := HR6.at (i := i7) c15 c16
  obtain rfl := hr18
  refine takeG [2] (n := 12) (fuel := 11) (l' := #[true, true, true, false, false, false, false, false, false, false, false, false, false, false]) (a' := ⟨#[iV i7, iV j8, .pointer (some ⟨b1, 0, none⟩), uV, uV, iV 0, .pointer (some ⟨b1, 2, none⟩), .slice A4 v3.At.length c5, iV i7, uV, uV, uV, uV, uV, uV, uV, uV, uV, uV], []⟩) rfl (by kernel_rfl) (by kernel_rfl) (by kernel_rfl) hnp (Sg.g0 (Sx.of [] (FM.le.refl _) HS14)) ?_
  refine takeGQ 3 [] rfl (by kernel_rfl) (by kernel_rfl) (by kernel_rfl) (by kernel_rfl) (by kernel_rfl) (by kernel_rfl) hnp (Sg.g0 (Sx.of [] (FM.le.refl _) HS14)) (fun w_ hw_ => by obtain ⟨g_, hl_, hS_⟩ := hw_.st; exact run_indexE hA22 (sz := 3) rfl Try.underlying32 (by kernel_rfl) (by kernel_rfl : _ = Value.slice A4 v3.At.length c5) (by kernel_rfl : _ = Value.int .i64 i7) c15 c16 w_) ?_
  refine takeG [4] (n := 10) (fuel := 9) (l' := #[true, true, true, true, true, false, false, false, false, false, false, false, false, false]) (a' := ⟨#[iV i7, iV j8, .pointer (some ⟨b1, 0, none⟩), uV, uV, iV 0, .pointer (some ⟨b1, 2, none⟩), .slice A4 v3.At.length c5, iV i7, .pointer (some ⟨b20, of21 + (i7 : Int).toNat * 3, none⟩), .pointer (some ⟨b20, of21 + (i7 : Int).toNat * 3, none⟩), uV, uV, uV, uV, uV, uV, uV, uV], []⟩) rfl (by kernel_rfl) (by kernel_rfl) (by kernel_rfl) hnp (Sg.g0 (Sx.of [] (FM.le.refl _) HS14)) ?_
  refine takeGQ 5 [] rfl (by kernel_rfl) (by kernel_rfl) (by kernel_rfl) (by kernel_rfl) (by kernel_rfl) (by kernel_rfl) hnp (Sg.g0 (Sx.of [] (FM.le.refl _) HS14)) (fun w_ hw_ => by obtain ⟨g_, hl_, hS_⟩ := hw_.st; exact run_load rfl Try.underlying42 rfl (by kernel_rfl : _ = Value.pointer (some ⟨b20, of21 + (i7 : Int).toNat * 3, none⟩)) ((hc19 hl_ hS_) 0 (by decide))) ?_
  refine takeG [6] (n := 8) (fuel := 7) (l' := #[true, true, true, true, true, true, true, false, false, false, false, false, false, false]) (a' := ⟨#[iV i7, iV j8, .pointer (some ⟨b1, 0, none⟩), uV, uV, iV 0, .pointer (some ⟨b1, 2, none⟩), .slice A4 v3.At.length c5, iV i7, .pointer (some ⟨b20, of21 + (i7 : Int).toNat * 3, none⟩), .pointer (some ⟨b20, of21 + (i7 : Int).toNat * 3, none⟩), iV ((rd v3.At i7).Lo), .pointer (some ⟨b1, 2, none⟩), uV, uV, uV, uV, uV, uV], []⟩) rfl (by kernel_rfl) (by kernel_rfl) (by kernel_rfl) hnp (Sg.g0 (Sx.of [] (FM.le.refl _) HS14)) ?_
  refine takeGQ 7 [] rfl (by kernel_rfl) (by kernel_rfl) (by kernel_rfl) (by kernel_rfl) (by kernel_rfl) (by kernel_rfl) hnp (Sg.g0 (Sx.of [] (FM.le.refl _) HS14)) (fun w_ hw_ => by obtain ⟨g_, hl_, hS_⟩ := hw_.st; exact run_load rfl Try.underlying32 rfl (by kernel_rfl : _ = Value.pointer (some ⟨b1, 2, none⟩)) (hS_.cell 2)) ?_
  have hq_ := guard_some h; clear h; obtain ⟨c23, h⟩ := hq_
  have c23 : 0 ≤ j8 := c23
  have hq_ := guard_some h; clear h; obtain ⟨c24, h⟩ := hq_
  have c24 : j8 < (v3.At.length : Int) := c24
  obtain ⟨b28, of29, cs25, hA30, hr26, hc27⟩ := HR6.at (i := j8) c23 c24
  obtain rfl := hr26
  refine takeG [8] (n := 6) (fuel := 5) (l' := #[true, true, true, true, true, true, true, true, true, false, false, false, false, false]) (a' := ⟨#[iV i7, iV j8, .pointer (some ⟨b1, 0, none⟩), uV, uV, iV 0, .pointer (some ⟨b1, 2, none⟩), .slice A4 v3.At.length c5, iV i7, .pointer (some ⟨b20, of21 + (i7 : Int).toNat * 3, none⟩), .pointer (some ⟨b20, of21 + (i7 : Int).toNat * 3, none⟩), iV ((rd v3.At i7).Lo), .pointer (some ⟨b1, 2, none⟩), .slice A4 v3.At.length c5, iV j8, uV, uV, uV, uV], []⟩) rfl (by kernel_rfl) (by kernel_rfl) (by kernel_rfl) hnp (Sg.g0 (Sx.of [] (FM.le.refl _) HS14)) ?_
  refine takeGQ 9 [] rfl (by kernel_rfl) (by kernel_rfl) (by kernel_rfl) (by kernel_rfl) (by kernel_rfl) (by kernel_rfl) hnp (Sg.g0 (Sx.of [] (FM.le.refl _) HS14)) (fun w_ hw_ => by obtain ⟨g_, hl_, hS_⟩ := hw_.st; exact run_indexE hA30 (sz := 3) rfl Try.underlying32 (by kernel_rfl) (by kernel_rfl : _ = Value.slice A4 v3.At.length c5) (by kernel_rfl : _ = Value.int .i64 j8) c23 c24 w_) ?_
  refine takeG [10] (n := 4) (fuel := 3) (l' := #[true, true, true, true, true, true, true, true, true, true, true, false, false, false]) (a' := ⟨#[iV i7, iV j8, .pointer (some ⟨b1, 0, none⟩), uV, uV, iV 0, .pointer (some ⟨b1, 2, none⟩), .slice A4 v3.At.length c5, iV i7, .pointer (some ⟨b20, of21 + (i7 : Int).toNat * 3, none⟩), .pointer (some ⟨b20, of21 + (i7 : Int).toNat * 3, none⟩), iV ((rd v3.At i7).Lo), .pointer (some ⟨b1, 2, none⟩), .slice A4 v3.At.length c5, iV j8, .pointer (some ⟨b28, of29 + (j8 : Int).toNat * 3, none⟩), .pointer (some ⟨b28, of29 + (j8 : Int).toNat * 3, none⟩), uV, uV], []⟩) rfl (by kernel_rfl) (by kernel_rfl) (by kernel_rfl) hnp (Sg.g0 (Sx.of [] (FM.le.refl _) HS14)) ?_
  refine takeGQ 11 [] rfl (by kernel_rfl) (by kernel_rfl) (by kernel_rfl) (by kernel_rfl) (by kernel_rfl) (by kernel_rfl) hnp (Sg.g0 (Sx.of [] (FM.le.refl _) HS14)) (fun w_ hw_ => by obtain ⟨g_, hl_, hS_⟩ := hw_.st; exact run_load rfl Try.underlying42 rfl (by kernel_rfl : _ = Value.pointer (some ⟨b28, of29 + (j8 : Int).toNat * 3, none⟩)) ((hc27 hl_ hS_) 0 (by decide))) ?_
  have hq_ := bind_some h; clear h; obtain ⟨vt31, hc32, h⟩ := hq_
  refine takeGE 12 (by kernel_rfl) rfl (by kernel_rfl) (does_call (f := 67) (args := #[.int .i64 ((rd v3.At i7).Lo), .int .i64 ((rd v3.At j8).Lo)]) (by kernel_rfl) (cmp_Compare_Quanta.calls k ((rd v3.At i7).Lo) ((rd v3.At j8).Lo) HS14 vt31 hc32) ?_)
  rintro _ W35 ⟨f33, rfl, L34, HS36⟩
  refine ⟨_, rfl, ?_⟩
  refine ⟨(Sg.g0 (Sx.of [] L34 HS36)), ?_⟩
  refine takeG [13] (n := 1) (fuel := 0) (l' := #[true, true, true, true, true, true, true, true, true, true, true, true, true, true]) (a' := ⟨#[iV i7, iV j8, .pointer (some ⟨b1, 0, none⟩), uV, uV, iV vt31, .pointer (some ⟨b1, 2, none⟩), .slice A4 v3.At.length c5, iV i7, .pointer (some ⟨b20, of21 + (i7 : Int).toNat * 3, none⟩), .pointer (some ⟨b20, of21 + (i7 : Int).toNat * 3, none⟩), iV ((rd v3.At i7).Lo), .pointer (some ⟨b1, 2, none⟩), .slice A4 v3.At.length c5, iV j8, .pointer (some ⟨b28, of29 + (j8 : Int).toNat * 3, none⟩), .pointer (some ⟨b28, of29 + (j8 : Int).toNat * 3, none⟩), iV ((rd v3.At j8).Lo), iV vt31], []⟩) rfl (by kernel_rfl) (by kernel_rfl) (by kernel_rfl) hnp (Sg.g0 (Sx.of [] L34 HS36)) ?_
  refine doneG (by kernel_rfl) ?_ _
  refine hK12 _ _ ?_
  refine wp_ret ?_
  refine hret _ _ ?_
  refine ends_still (v := Value.int .i64 vt31) (by kernel_rfl) (by kernel_rfl) ?_
  injection h with h
  subst h
  exact ⟨f33, rfl, L34, HS36⟩

set_option maxRecDepth 100000 in
set_option maxHeartbeats 4000000 in
theorem slices_insertionSortCmpFunc_int__level_known_1.calls (k : Nat) (b1 : Nat) (A4 : Option Addr) (c5 : Nat) (A7 : Option Addr) (c8 : Nat) (s9 : Seg) (v3 : S_Cells) (data11 : List Int) (a13 : Int) (b14 : Int) {t w : World} {f : FM} {H : List Seg} (HS : St t w f ([(b1, .cells #[.int .i64 v3.W, .int .i64 v3.H, .slice A4 v3.At.length c5] 34 (0, 0))] :: s9 :: H)) (HR6 : SlR ty_Bound f A4 c5 v3.At) (HO10 : Own (tInt .i64) 3 f A7 c8 s9 data11) (r1 : List Int) (h : slices_insertionSortCmpFunc_int__level_known_1 k v3 data11 a13 b14 = some r1) :
    Calls Try.prog 136 #[.slice A7 data11.length c8, .int .i64 a13, .int .i64 b14, .func (.func 99) #[] #[.pointer (some ⟨b1, 0, none⟩)]] w (fun e w' => ∃ (g : FM) (s411 : Seg), e = .returned (Value.tuple #[]) ∧ FM.le f g ∧ St t w' g ([(b1, .cells #[.int .i64 v3.W, .int .i64 v3.H, .slice A4 v3.At.length c5] 34 (0, 0))] :: s411 :: H) ∧ Own (tInt .i64) 3 g A7 c8 s411 r1 ∧ r1.length = data11.length) := by
  unfold slices_insertionSortCmpFunc_int__level_known_1 at h
  refine enter Try.func136 rfl (tm := #[.slice A7 data11.length c8, iV a13, iV b14, .func (.func 99) #[] #[.pointer (some ⟨b1, 0, none⟩)], uV, uV, uV, uV, uV, uV, uV, uV, uV, uV, uV, uV, uV, uV, uV, uV, uV, uV, uV, uV, uV, uV, uV, uV, uV, uV, uV, uV, uV, uV, uV, uV, uV, uV, uV, uV, uV, uV, uV, uV, uV, uV, uV, uV, uV, uV, uV, uV, uV]) (by kernel_rfl) ?_
  intro B hret hnor hnp
  refine wp_seq_k (fun K15 hK16 => ?_)
  refine wp_region_lit ?_
  refine seqS3 (a' := ⟨#[.slice A7 data11.length c8, iV a13, iV b14, .func (.func 99) #[] #[.pointer (some ⟨b1, 0, none⟩)], uV, uV, uV, uV, iV (w64 (a13 + 1)), uV, iV a13, iV (w64 (a13 + 1)), uV, uV, uV, uV, uV, uV, uV, uV, uV, uV, uV, uV, uV, uV, uV, uV, uV, uV, uV, uV, uV, uV, uV, uV, uV, uV, uV, uV, uV, uV, uV, uV, uV, uV, uV, uV, uV, uV, uV, uV, uV], []⟩) (by kernel_rfl) ?_
  refine wpList_nil ?_
  refine hK16 _ _ ?_
  refine blockK (fun B17 hx18 hn19 hr20 ho21 hp22 => ?_)
  have hq_ := bind_some h; clear h; obtain ⟨o209, hv408, h⟩ := hq_
  have J409 : ∀ (f399 : FM) (s405 : Seg) (data404 : List Int) (j403 : Nat → Value) (W401 : World) (a_ : Act), FM.le f f399 → some (data404) = some o209 → St t W401 f399 ([(b1, .cells #[.int .i64 v3.W, .int .i64 v3.H, .slice A4 v3.At.length c5] 34 (0, 0))] :: s405 :: H) → Own (tInt .i64) 3 f399 A7 c8 s405 data404 → data404.length = data11.length → a_ = ⟨#[.slice A7 data404.length c8, iV a13, iV b14, .func (.func 99) #[] #[.pointer (some ⟨b1, 0, none⟩)], uV, uV, uV, uV, (j403 0), (j403 1), iV a13, iV (w64 (a13 + 1)), (j403 2), (j403 3), (j403 4), (j403 5), (j403 6), (j403 7), (j403 8), (j403 9), (j403 10), (j403 11), (j403 12), (j403 13), (j403 14), (j403 15), (j403 16), (j403 17), (j403 18), (j403 19), (j403 20), (j403 21), (j403 22), (j403 23), (j403 24), (j403 25), (j403 26), (j403 27), (j403 28), (j403 29), (j403 30), (j403 31), (j403 32), (j403 33), (j403 34), (j403 35), (j403 36), (j403 37), (j403 38), (j403 39), (j403 40), (j403 41), (j403 42)], []⟩ → B Exit.normal a_ W401 := by
    intro f399 s405 data404 j403 W401 a_ L400 hj410 HS402 HO406 HL407 hfr_; subst hfr_
    injection hj410 with hj410; subst hj410; try dsimp only at h
    refine hnor _ _ ?_
    refine ends_still (v := Value.tuple #[]) (by kernel_rfl) (by kernel_rfl) ?_
    injection h with h
    subst h
    exact ⟨f399, s405, rfl, L400, HS402, HO406, HL407⟩
  clear h; have h := hv408; clear hv408
  refine loopK (fun n_ a_ w_ => ∃ (f213 : FM) (s219 : Seg) (data218 : List Int) (i222 : Int) (j217 : Nat → Value), FM.le f f213 ∧ St t w_ f213 ([(b1, .cells #[.int .i64 v3.W, .int .i64 v3.H, .slice A4 v3.At.length c5] 34 (0, 0))] :: s219 :: H) ∧ Own (tInt .i64) 3 f213 A7 c8 s219 data218 ∧ data218.length = data11.length ∧ slices_insertionSortCmpFunc_int__level_known_1.l0 k b14 a13 v3 n_ data218 i222 = some o209 ∧ a_ = ⟨#[.slice A7 data218.length c8, iV a13, iV b14, .func (.func 99) #[] #[.pointer (some ⟨b1, 0, none⟩)], uV, uV, uV, uV, iV i222, (j217 0), iV a13, iV (w64 (a13 + 1)), (j217 1), (j217 2), (j217 3), (j217 4), (j217 5), (j217 6), (j217 7), (j217 8), (j217 9), (j217 10), (j217 11), (j217 12), (j217 13), (j217 14), (j217 15), (j217 16), (j217 17), (j217 18), (j217 19), (j217 20), (j217 21), (j217 22), (j217 23), (j217 24), (j217 25), (j217 26), (j217 27), (j217 28), (j217 29), (j217 30), (j217 31), (j217 32), (j217 33), (j217 34), (j217 35), (j217 36), (j217 37), (j217 38), (j217 39), (j217 40), (j217 41)], []⟩) k ⟨f, s9, data11, (w64 (a13 + 1)), (fun i_ => [undef, undef, undef, undef, undef, undef, undef, undef, undef, undef, undef, undef, undef, undef, undef, undef, undef, undef, undef, undef, undef, undef, undef, undef, undef, undef, undef, undef, undef, undef, undef, undef, undef, undef, undef, undef, undef, undef, undef, undef, undef, undef].getD i_ undef), (FM.le.refl _), HS, HO10, rfl, h, (by kernel_rfl)⟩ ?_
  clear h
  rintro n212 _ W215 ⟨f213, s219, data218, i222, j217, L214, HS216, HO220, HL221, h, rfl⟩ K210 hK211
  obtain _ | n212 := n212
  · exact nomatch h
  simp only [slices_insertionSortCmpFunc_int__level_known_1.l0] at h
  refine wp_seq_k (fun K223 hK224 => ?_)
  refine wp_seq_k (fun K225 hK226 => ?_)
  refine wp_region_lit ?_
  refine seqS3 (a' := ⟨#[.slice A7 data218.length c8, iV a13, iV b14, .func (.func 99) #[] #[.pointer (some ⟨b1, 0, none⟩)], uV, uV, uV, uV, iV i222, (j217 0), iV a13, iV (w64 (a13 + 1)), iV i222, iV b14, .bool (decide (i222 < b14)), (j217 4), (j217 5), (j217 6), (j217 7), (j217 8), (j217 9), (j217 10), (j217 11), (j217 12), (j217 13), (j217 14), (j217 15), (j217 16), (j217 17), (j217 18), (j217 19), (j217 20), (j217 21), (j217 22), (j217 23), (j217 24), (j217 25), (j217 26), (j217 27), (j217 28), (j217 29), (j217 30), (j217 31), (j217 32), (j217 33), (j217 34), (j217 35), (j217 36), (j217 37), (j217 38), (j217 39), (j217 40), (j217 41)], []⟩) (by kernel_rfl) ?_
  refine wpList_nil ?_
  refine hK226 _ _ ?_
  have hq_ := ite_some h; clear h; rcases hq_ with ⟨c228, h⟩ | ⟨c228, h⟩
  · have c228 : i222 < b14 := c228
    refine wpRwI 14 (x := (decide (i222 < b14))) (v := true) (by kernel_rfl) (decide_eq_true c228) ?_
    refine condT (by kernel_rfl) ?_
    refine wp_skip ?_
    refine hK224 _ _ ?_
    refine wp_seq_k (fun K229 hK230 => ?_)
    refine blockK (fun B231 hx232 hn233 hr234 ho235 hp236 => ?_)
    refine wp_seq_k (fun K238 hK239 => ?_)
    refine wp_region_lit ?_
    refine seqS2 (a' := ⟨#[.slice A7 data218.length c8, iV a13, iV b14, .func (.func 99) #[] #[.pointer (some ⟨b1, 0, none⟩)], uV, uV, uV, uV, iV i222, iV i222, iV a13, iV (w64 (a13 + 1)), iV i222, iV b14, .bool true, (j217 4), (j217 5), iV i222, (j217 7), (j217 8), (j217 9), (j217 10), (j217 11), (j217 12), (j217 13), (j217 14), (j217 15), (j217 16), (j217 17), (j217 18), (j217 19), (j217 20), (j217 21), (j217 22), (j217 23), (j217 24), (j217 25), (j217 26), (j217 27), (j217 28), (j217 29), (j217 30), (j217 31), (j217 32), (j217 33), (j217 34), (j217 35), (j217 36), (j217 37), (j217 38), (j217 39), (j217 40), (j217 41)], []⟩) (by kernel_rfl) ?_
    refine wpList_nil ?_
    refine hK239 _ _ ?_
    refine blockK (fun B240 hx241 hn242 hr243 ho244 hp245 => ?_)
    have hq_ := bind_some h; clear h; obtain ⟨o314, hv395, h⟩ := hq_
    have J396 : ∀ (f386 : FM) (s392 : Seg) (data391 : List Int) (j390 : Nat → Value) (W388 : World) (a_ : Act), FM.le f213 f386 → some (data391) = some o314 → St t W388 f386 ([(b1, .cells #[.int .i64 v3.W, .int .i64 v3.H, .slice A4 v3.At.length c5] 34 (0, 0))] :: s392 :: H) → Own (tInt .i64) 3 f386 A7 c8 s392 data391 → data391.length = data218.length → a_ = ⟨#[.slice A7 data391.length c8, iV a13, iV b14, .func (.func 99) #[] #[.pointer (some ⟨b1, 0, none⟩)], uV, uV, uV, uV, iV i222, (j390 0), iV a13, iV (w64 (a13 + 1)), iV i222, iV b14, .bool true, (j217 4), (j217 5), iV i222, (j390 1), (j390 2), (j390 3), (j390 4), (j390 5), (j390 6), (j390 7), (j390 8), (j390 9), (j390 10), (j390 11), (j390 12), (j390 13), (j390 14), (j390 15), (j390 16), (j390 17), (j390 18), (j390 19), (j390 20), (j390 21), (j390 22), (j390 23), (j390 24), (j390 25), (j390 26), (j390 27), (j390 28), (j390 29), (j390 30), (j390 31), (j390 32), (j390 33), (j390 34), (j390 35)], []⟩ → B231 Exit.normal a_ W388 := by
      intro f386 s392 data391 j390 W388 a_ L387 hj397 HS389 HO393 HL394 hfr_; subst hfr_
      injection hj397 with hj397; subst hj397; try dsimp only at h
      refine hn233 _ _ ?_
      refine hK230 _ _ ?_
      refine wp_region_lit ?_
      refine seqS3 (a' := ⟨#[.slice A7 data391.length c8, iV a13, iV b14, .func (.func 99) #[] #[.pointer (some ⟨b1, 0, none⟩)], uV, uV, uV, uV, iV (w64 (i222 + 1)), (j390 0), iV a13, iV (w64 (a13 + 1)), iV i222, iV b14, .bool true, iV i222, iV (w64 (i222 + 1)), iV i222, (j390 1), (j390 2), (j390 3), (j390 4), (j390 5), (j390 6), (j390 7), (j390 8), (j390 9), (j390 10), (j390 11), (j390 12), (j390 13), (j390 14), (j390 15), (j390 16), (j390 17), (j390 18), (j390 19), (j390 20), (j390 21), (j390 22), (j390 23), (j390 24), (j390 25), (j390 26), (j390 27), (j390 28), (j390 29), (j390 30), (j390 31), (j390 32), (j390 33), (j390 34), (j390 35)], []⟩) (by kernel_rfl) ?_
      refine wpList_nil ?_
      refine hK211 n212 _ _ (Nat.lt_succ_self _) ?_
      exact ⟨f386, s392, data391, (w64 (i222 + 1)), (fun i_ => [(j390 0), Value.int .i64 i222, Value.int .i64 b14, Value.bool true, Value.int .i64 i222, Value.int .i64 (w64 (i222 + 1)), Value.int .i64 i222, (j390 1), (j390 2), (j390 3), (j390 4), (j390 5), (j390 6), (j390 7), (j390 8), (j390 9), (j390 10), (j390 11), (j390 12), (j390 13), (j390 14), (j390 15), (j390 16), (j390 17), (j390 18), (j390 19), (j390 20), (j390 21), (j390 22), (j390 23), (j390 24), (j390 25), (j390 26), (j390 27), (j390 28), (j390 29), (j390 30), (j390 31), (j390 32), (j390 33), (j390 34), (j390 35)].getD i_ undef), (L214.trans L387), HS389, HO393, (HL394.trans HL221), h, (by kernel_rfl)⟩
    clear h; have h := hv395; clear hv395
    refine loopK (fun n_ a_ w_ => ∃ (f318 : FM) (s324 : Seg) (data323 : List Int) (j327 : Int) (j322 : Nat → Value), FM.le f213 f318 ∧ St t w_ f318 ([(b1, .cells #[.int .i64 v3.W, .int .i64 v3.H, .slice A4 v3.At.length c5] 34 (0, 0))] :: s324 :: H) ∧ Own (tInt .i64) 3 f318 A7 c8 s324 data323 ∧ data323.length = data218.length ∧ slices_insertionSortCmpFunc_int__level_known_1.l1 k a13 v3 n_ data323 j327 = some o314 ∧ a_ = ⟨#[.slice A7 data323.length c8, iV a13, iV b14, .func (.func 99) #[] #[.pointer (some ⟨b1, 0, none⟩)], uV, uV, uV, uV, iV i222, iV j327, iV a13, iV (w64 (a13 + 1)), iV i222, iV b14, .bool true, (j217 4), (j217 5), iV i222, (j322 0), (j322 1), (j322 2), (j322 3), (j322 4), (j322 5), (j322 6), (j322 7), (j322 8), (j322 9), (j322 10), (j322 11), (j322 12), (j322 13), (j322 14), (j322 15), (j322 16), (j322 17), (j322 18), (j322 19), (j322 20), (j322 21), (j322 22), (j322 23), (j322 24), (j322 25), (j322 26), (j322 27), (j322 28), (j322 29), (j322 30), (j322 31), (j322 32), (j322 33), (j322 34)], []⟩) k ⟨f213, s219, data218, i222, (fun i_ => [(j217 7), (j217 8), (j217 9), (j217 10), (j217 11), (j217 12), (j217 13), (j217 14), (j217 15), (j217 16), (j217 17), (j217 18), (j217 19), (j217 20), (j217 21), (j217 22), (j217 23), (j217 24), (j217 25), (j217 26), (j217 27), (j217 28), (j217 29), (j217 30), (j217 31), (j217 32), (j217 33), (j217 34), (j217 35), (j217 36), (j217 37), (j217 38), (j217 39), (j217 40), (j217 41)].getD i_ undef), (FM.le.refl _), HS216, HO220, rfl, h, (by kernel_rfl)⟩ ?_
    clear h
    rintro n317 _ W320 ⟨f318, s324, data323, j327, j322, L319, HS321, HO325, HL326, h, rfl⟩ K315 hK316
    obtain _ | n317 := n317
    · exact nomatch h
    simp only [slices_insertionSortCmpFunc_int__level_known_1.l1] at h
    refine wp_seq_k (fun K328 hK329 => ?_)
    refine wp_seq_k (fun K330 hK331 => ?_)
    refine heldG (S := Sg t f318 ([(b1, .cells #[.int .i64 v3.W, .int .i64 v3.H, .slice A4 v3.At.length c5] 34 (0, 0))] :: s324 :: H) []) (n := 17) (by kernel_rfl) rfl HS321 ?_
    intro W332 HS333
    refine takeG [0, 1, 2, 3] (n := 17) (fuel := 13) (l' := #[true, true, true, true, false, false, false, false, false, false, false, false, false, false, false, false, false]) (a' := ⟨#[.slice A7 data323.length c8, iV a13, iV b14, .func (.func 99) #[] #[.pointer (some ⟨b1, 0, none⟩)], uV, uV, uV, uV, iV i222, iV j327, iV a13, iV (w64 (a13 + 1)), iV i222, iV b14, .bool true, (j217 4), (j217 5), iV i222, iV j327, iV a13, .bool (decide (j327 > a13)), .bool (decide (j327 > a13)), (j322 4), (j322 5), (j322 6), (j322 7), (j322 8), (j322 9), (j322 10), (j322 11), (j322 12), (j322 13), (j322 14), (j322 15), (j322 16), (j322 17), (j322 18), (j322 19), (j322 20), (j322 21), (j322 22), (j322 23), (j322 24), (j322 25), (j322 26), (j322 27), (j322 28), (j322 29), (j322 30), (j322 31), (j322 32), (j322 33), (j322 34)], []⟩) rfl (by kernel_rfl) (by kernel_rfl) (by kernel_rfl) (fun ch_ a_ w_ q_ => (fun ch_ a_ w_ q_ => (fun ch_ a_ w_ q_ => hnp ch_ a_ w_ (hp22 ch_ a_ w_ q_)) ch_ a_ w_ (hp236 ch_ a_ w_ q_)) ch_ a_ w_ (hp245 ch_ a_ w_ q_)) (Sg.g0 (Sx.of [] (FM.le.refl _) HS333)) ?_
    have hq_ := ite_some h; clear h; rcases hq_ with ⟨c334, h⟩ | ⟨c334, h⟩
    · have c334 : j327 > a13 := c334
      refine gateRwI 20 (x := (decide (j327 > a13))) (v := true) (by kernel_rfl) (decide_eq_true c334) ?_
      refine gateRwI 21 (x := (decide (j327 > a13))) (v := true) (by kernel_rfl) (decide_eq_true c334) ?_
      have hq_ := guard_some h; clear h; obtain ⟨c335, h⟩ := hq_
      have c335 : 0 ≤ j327 := c335
      have hq_ := guard_some h; clear h; obtain ⟨c336, h⟩ := hq_
      have c336 : j327 < (data323.length : Int) := c336
      obtain ⟨b340, of341, cs337, hA342, hr338, hc339⟩ := HO325.at (i := j327) c335 c336
      obtain rfl := hr338
      refine takeG [4, 5, 6] (n := 13) (fuel := 10) (l' := #[true, true, true, true, true, true, true, false, false, false, false, false, false, false, false, false, false]) (a' := ⟨#[.slice A7 data323.length c8, iV a13, iV b14, .func (.func 99) #[] #[.pointer (some ⟨b1, 0, none⟩)], uV, uV, uV, uV, iV i222, iV j327, iV a13, iV (w64 (a13 + 1)), iV i222, iV b14, .bool true, (j217 4), (j217 5), iV i222, iV j327, iV a13, .bool true, .bool true, .func (.func 99) #[] #[.pointer (some ⟨b1, 0, none⟩)], .slice A7 data323.length c8, iV j327, (j322 7), (j322 8), (j322 9), (j322 10), (j322 11), (j322 12), (j322 13), (j322 14), (j322 15), (j322 16), (j322 17), (j322 18), (j322 19), (j322 20), (j322 21), (j322 22), (j322 23), (j322 24), (j322 25), (j322 26), (j322 27), (j322 28), (j322 29), (j322 30), (j322 31), (j322 32), (j322 33), (j322 34)], []⟩) rfl (by kernel_rfl) (by kernel_rfl) (by kernel_rfl) (fun ch_ a_ w_ q_ => (fun ch_ a_ w_ q_ => (fun ch_ a_ w_ q_ => hnp ch_ a_ w_ (hp22 ch_ a_ w_ q_)) ch_ a_ w_ (hp236 ch_ a_ w_ q_)) ch_ a_ w_ (hp245 ch_ a_ w_ q_)) (Sg.g0 (Sx.of [] (FM.le.refl _) HS333)) ?_
      refine takeGQ 7 [] rfl (by kernel_rfl) (by kernel_rfl) (by kernel_rfl) (by kernel_rfl) (by kernel_rfl) (by kernel_rfl) (fun ch_ a_ w_ q_ => (fun ch_ a_ w_ q_ => (fun ch_ a_ w_ q_ => hnp ch_ a_ w_ (hp22 ch_ a_ w_ q_)) ch_ a_ w_ (hp236 ch_ a_ w_ q_)) ch_ a_ w_ (hp245 ch_ a_ w_ q_)) (Sg.g0 (Sx.of [] (FM.le.refl _) HS333)) (fun w_ hw_ => by obtain ⟨g_, hl_, hS_⟩ := hw_.st; exact run_indexE hA342 (sz := 1) rfl Try.underlying22 (by kernel_rfl) (by kernel_rfl : _ = Value.slice A7 data323.length c8) (by kernel_rfl : _ = Value.int .i64 j327) c335 c336 w_) ?_
      refine takeGQ 8 [] rfl (by kernel_rfl) (by kernel_rfl) (by kernel_rfl) (by kernel_rfl) (by kernel_rfl) (by kernel_rfl) (fun ch_ a_ w_ q_ => (fun ch_ a_ w_ q_ => (fun ch_ a_ w_ q_ => hnp ch_ a_ w_ (hp22 ch_ a_ w_ q_)) ch_ a_ w_ (hp236 ch_ a_ w_ q_)) ch_ a_ w_ (hp245 ch_ a_ w_ q_)) (Sg.g0 (Sx.of [] (FM.le.refl _) HS333)) (fun w_ hw_ => by obtain ⟨g_, hl_, hS_⟩ := hw_.st; exact run_load rfl Try.underlying3 rfl (by kernel_rfl : _ = Value.pointer (some ⟨b340, of341 + (j327 : Int).toNat * 1, none⟩)) ((hc339 hS_.u1) 0 (by decide))) ?_
      have hq_ := guard_some h; clear h; obtain ⟨c343, h⟩ := hq_
      have c343 : 0 ≤ (w64 (j327 - 1)) := c343
      have hq_ := guard_some h; clear h; obtain ⟨c344, h⟩ := hq_
      have c344 : (w64 (j327 - 1)) < (data323.length : Int) := c344
      obtain ⟨b348, of349, cs345, hA350, hr346, hc347⟩ := HO325.at (i := w64 (j327 - 1)) c343 c344
      obtain rfl := hr346
      refine takeG [9, 10, 11] (n := 8) (fuel := 5) (l' := #[true, true, true, true, true, true, true, true, true, true, true, true, false, false, false, false, false]) (a' := ⟨#[.slice A7 data323.length c8, iV a13, iV b14, .func (.func 99) #[] #[.pointer (some ⟨b1, 0, none⟩)], uV, uV, uV, uV, iV i222, iV j327, iV a13, iV (w64 (a13 + 1)), iV i222, iV b14, .bool true, (j217 4), (j217 5), iV i222, iV j327, iV a13, .bool true, .bool true, .func (.func 99) #[] #[.pointer (some ⟨b1, 0, none⟩)], .slice A7 data323.length c8, iV j327, .pointer (some ⟨b340, of341 + (j327 : Int).toNat * 1, none⟩), iV (rd data323 j327), .slice A7 data323.length c8, iV j327, iV (w64 (j327 - 1)), (j322 12), (j322 13), (j322 14), (j322 15), (j322 16), (j322 17), (j322 18), (j322 19), (j322 20), (j322 21), (j322 22), (j322 23), (j322 24), (j322 25), (j322 26), (j322 27), (j322 28), (j322 29), (j322 30), (j322 31), (j322 32), (j322 33), (j322 34)], []⟩) rfl (by kernel_rfl) (by kernel_rfl) (by kernel_rfl) (fun ch_ a_ w_ q_ => (fun ch_ a_ w_ q_ => (fun ch_ a_ w_ q_ => hnp ch_ a_ w_ (hp22 ch_ a_ w_ q_)) ch_ a_ w_ (hp236 ch_ a_ w_ q_)) ch_ a_ w_ (hp245 ch_ a_ w_ q_)) (Sg.g0 (Sx.of [] (FM.le.refl _) HS333)) ?_
      refine takeGQ 12 [] rfl (by kernel_rfl) (by kernel_rfl) (by kernel_rfl) (by kernel_rfl) (by kernel_rfl) (by kernel_rfl) (fun ch_ a_ w_ q_ => (fun ch_ a_ w_ q_ => (fun ch_ a_ w_ q_ => hnp ch_ a_ w_ (hp22 ch_ a_ w_ q_)) ch_ a_ w_ (hp236 ch_ a_ w_ q_)) ch_ a_ w_ (hp245 ch_ a_ w_ q_)) (Sg.g0 (Sx.of [] (FM.le.refl _) HS333)) (fun w_ hw_ => by obtain ⟨g_, hl_, hS_⟩ := hw_.st; exact run_indexE hA350 (sz := 1) rfl Try.underlying22 (by kernel_rfl) (by kernel_rfl : _ = Value.slice A7 data323.length c8) (by kernel_rfl : _ = Value.int .i64 (w64 (j327 - 1))) c343 c344 w_) ?_
      refine takeGQ 13 [] rfl (by kernel_rfl) (by kernel_rfl) (by kernel_rfl) (by kernel_rfl) (by kernel_rfl) (by kernel_rfl) (fun ch_ a_ w_ q_ => (fun ch_ a_ w_ q_ => (fun ch_ a_ w_ q_ => hnp ch_ a_ w_ (hp22 ch_ a_ w_ q_)) ch_ a_ w_ (hp236 ch_ a_ w_ q_)) ch_ a_ w_ (hp245 ch_ a_ w_ q_)) (Sg.g0 (Sx.of [] (FM.le.refl _) HS333)) (fun w_ hw_ => by obtain ⟨g_, hl_, hS_⟩ := hw_.st; exact run_load rfl Try.underlying3 rfl (by kernel_rfl : _ = Value.pointer (some ⟨b348, of349 + (w64 (j327 - 1) : Int).toNat * 1, none⟩)) ((hc347 hS_.u1) 0 (by decide))) ?_
      have hq_ := bind_some h; clear h; obtain ⟨vt351, hc352, h⟩ := hq_
      refine takeGE 14 (by kernel_rfl) rfl (by kernel_rfl) (does_call (f := 99) (args := #[.int .i64 (rd data323 j327), .int .i64 (rd data323 (w64 (j327 - 1))), .pointer (some ⟨b1, 0, none⟩)]) (by kernel_rfl) (level_known_1.calls k b1 A4 c5 v3 (rd data323 j327) (rd data323 (w64 (j327 - 1))) HS333 (HR6.mono (L214.trans L319)) vt351 hc352) ?_)
      rintro _ W355 ⟨f353, rfl, L354, HS356⟩
      refine ⟨_, rfl, ?_⟩
      refine ⟨(Sg.g0 (Sx.of [] L354 HS356)), ?_⟩
      refine takeG [15, 16] (n := 2) (fuel := 0) (l' := #[true, true, true, true, true, true, true, true, true, true, true, true, true, true, true, true, true]) (a' := ⟨#[.slice A7 data323.length c8, iV a13, iV b14, .func (.func 99) #[] #[.pointer (some ⟨b1, 0, none⟩)], uV, uV, uV, uV, iV i222, iV j327, iV a13, iV (w64 (a13 + 1)), iV i222, iV b14, .bool true, (j217 4), (j217 5), iV i222, iV j327, iV a13, .bool true, .bool true, .func (.func 99) #[] #[.pointer (some ⟨b1, 0, none⟩)], .slice A7 data323.length c8, iV j327, .pointer (some ⟨b340, of341 + (j327 : Int).toNat * 1, none⟩), iV (rd data323 j327), .slice A7 data323.length c8, iV j327, iV (w64 (j327 - 1)), .pointer (some ⟨b348, of349 + (w64 (j327 - 1) : Int).toNat * 1, none⟩), iV (rd data323 (w64 (j327 - 1))), iV vt351, .bool (decide (vt351 < 0)), .bool (decide (vt351 < 0)), (j322 17), (j322 18), (j322 19), (j322 20), (j322 21), (j322 22), (j322 23), (j322 24), (j322 25), (j322 26), (j322 27), (j322 28), (j322 29), (j322 30), (j322 31), (j322 32), (j322 33), (j322 34)], []⟩) rfl (by kernel_rfl) (by kernel_rfl) (by kernel_rfl) (fun ch_ a_ w_ q_ => (fun ch_ a_ w_ q_ => (fun ch_ a_ w_ q_ => hnp ch_ a_ w_ (hp22 ch_ a_ w_ q_)) ch_ a_ w_ (hp236 ch_ a_ w_ q_)) ch_ a_ w_ (hp245 ch_ a_ w_ q_)) (Sg.g0 (Sx.of [] L354 HS356)) ?_
      refine doneG (by kernel_rfl) ?_ _
      refine hK331 _ _ ?_
      have hq_ := ite_some h; clear h; rcases hq_ with ⟨c358, h⟩ | ⟨c358, h⟩
      · have c358 : vt351 < 0 := c358
        refine wpRwI 33 (x := (decide (vt351 < 0))) (v := true) (by kernel_rfl) (decide_eq_true c358) ?_
        refine wpRwI 34 (x := (decide (vt351 < 0))) (v := true) (by kernel_rfl) (decide_eq_true c358) ?_
        refine condT (by kernel_rfl) ?_
        refine wp_skip ?_
        refine hK329 _ _ ?_
        refine wp_seq_k (fun K359 hK360 => ?_)
        refine blockK (fun B361 hx362 hn363 hr364 ho365 hp366 => ?_)
        have HS368 := HS356.u1
        refine heldG (S := Sg t f353 ([(b1, .cells #[.int .i64 v3.W, .int .i64 v3.H, .slice A4 v3.At.length c5] 34 (0, 0))] :: H) [(15, s324)]) (n := 18) (by kernel_rfl) rfl HS368 ?_
        intro W369 HS370
        refine takeG [0, 1, 2, 3, 4, 5, 6, 7] (n := 18) (fuel := 10) (l' := #[true, true, true, true, true, true, true, true, false, false, false, false, false, false, false, false, false, false]) (a' := ⟨#[.slice A7 data323.length c8, iV a13, iV b14, .func (.func 99) #[] #[.pointer (some ⟨b1, 0, none⟩)], uV, uV, uV, uV, iV i222, iV j327, iV a13, iV (w64 (a13 + 1)), iV i222, iV b14, .bool true, (j217 4), (j217 5), iV i222, iV j327, iV a13, .bool true, .bool true, .func (.func 99) #[] #[.pointer (some ⟨b1, 0, none⟩)], .slice A7 data323.length c8, iV j327, .pointer (some ⟨b340, of341 + (j327 : Int).toNat * 1, none⟩), iV (rd data323 j327), .slice A7 data323.length c8, iV j327, iV (w64 (j327 - 1)), .pointer (some ⟨b348, of349 + (w64 (j327 - 1) : Int).toNat * 1, none⟩), iV (rd data323 (w64 (j327 - 1))), iV vt351, .bool true, .bool true, (j322 17), (j322 18), .slice A7 data323.length c8, iV j327, .slice A7 data323.length c8, iV j327, iV (w64 (j327 - 1)), .slice A7 data323.length c8, iV j327, iV (w64 (j327 - 1)), (j322 27), (j322 28), (j322 29), (j322 30), (j322 31), (j322 32), (j322 33), (j322 34)], []⟩) rfl (by kernel_rfl) (by kernel_rfl) (by kernel_rfl) (fun ch_ a_ w_ q_ => (fun ch_ a_ w_ q_ => (fun ch_ a_ w_ q_ => (fun ch_ a_ w_ q_ => hnp ch_ a_ w_ (hp22 ch_ a_ w_ q_)) ch_ a_ w_ (hp236 ch_ a_ w_ q_)) ch_ a_ w_ (hp245 ch_ a_ w_ q_)) ch_ a_ w_ (hp366 ch_ a_ w_ q_)) (Sg.g1 (Sx.of [s324] (FM.le.refl _) HS370) (fun _ => St.only [] HS370 (FM.le.refl _))) ?_
        refine takeGQ 8 [] rfl (by kernel_rfl) (by kernel_rfl) (by kernel_rfl) (by kernel_rfl) (by kernel_rfl) (by kernel_rfl) (fun ch_ a_ w_ q_ => (fun ch_ a_ w_ q_ => (fun ch_ a_ w_ q_ => (fun ch_ a_ w_ q_ => hnp ch_ a_ w_ (hp22 ch_ a_ w_ q_)) ch_ a_ w_ (hp236 ch_ a_ w_ q_)) ch_ a_ w_ (hp245 ch_ a_ w_ q_)) ch_ a_ w_ (hp366 ch_ a_ w_ q_)) (Sg.g1 (Sx.of [s324] (FM.le.refl _) HS370) (fun _ => St.only [] HS370 (FM.le.refl _))) (fun w_ hw_ => by obtain ⟨g_, hl_, hS_⟩ := hw_.st; exact run_indexE hA350 (sz := 1) rfl Try.underlying22 (by kernel_rfl) (by kernel_rfl : _ = Value.slice A7 data323.length c8) (by kernel_rfl : _ = Value.int .i64 (w64 (j327 - 1))) c343 c344 w_) ?_
        refine takeGQ 9 [15] rfl (by kernel_rfl) (by kernel_rfl) (by kernel_rfl) (by kernel_rfl) (by kernel_rfl) (by kernel_rfl) (fun ch_ a_ w_ q_ => (fun ch_ a_ w_ q_ => (fun ch_ a_ w_ q_ => (fun ch_ a_ w_ q_ => hnp ch_ a_ w_ (hp22 ch_ a_ w_ q_)) ch_ a_ w_ (hp236 ch_ a_ w_ q_)) ch_ a_ w_ (hp245 ch_ a_ w_ q_)) ch_ a_ w_ (hp366 ch_ a_ w_ q_)) (Sg.g1 (Sx.of [s324] (FM.le.refl _) HS370) (fun _ => St.only [] HS370 (FM.le.refl _))) (fun w_ hw_ => by obtain ⟨g_, hl_, hS_⟩ := hw_.seg (j := 15) (s := s324) (by simp) (by simp); exact run_load rfl Try.underlying3 rfl (by kernel_rfl : _ = Value.pointer (some ⟨b348, of349 + (w64 (j327 - 1) : Int).toNat * 1, none⟩)) ((hc347 hS_) 0 (by decide))) ?_
        refine takeG [10, 11] (n := 8) (fuel := 6) (l' := #[true, true, true, true, true, true, true, true, true, true, true, true, false, false, false, false, false, false]) (a' := ⟨#[.slice A7 data323.length c8, iV a13, iV b14, .func (.func 99) #[] #[.pointer (some ⟨b1, 0, none⟩)], uV, uV, uV, uV, iV i222, iV j327, iV a13, iV (w64 (a13 + 1)), iV i222, iV b14, .bool true, (j217 4), (j217 5), iV i222, iV j327, iV a13, .bool true, .bool true, .func (.func 99) #[] #[.pointer (some ⟨b1, 0, none⟩)], .slice A7 data323.length c8, iV j327, .pointer (some ⟨b340, of341 + (j327 : Int).toNat * 1, none⟩), iV (rd data323 j327), .slice A7 data323.length c8, iV j327, iV (w64 (j327 - 1)), .pointer (some ⟨b348, of349 + (w64 (j327 - 1) : Int).toNat * 1, none⟩), iV (rd data323 (w64 (j327 - 1))), iV vt351, .bool true, .bool true, (j322 17), (j322 18), .slice A7 data323.length c8, iV j327, .slice A7 data323.length c8, iV j327, iV (w64 (j327 - 1)), .slice A7 data323.length c8, iV j327, iV (w64 (j327 - 1)), .pointer (some ⟨b348, of349 + (w64 (j327 - 1) : Int).toNat * 1, none⟩), iV (rd data323 (w64 (j327 - 1))), .slice A7 data323.length c8, iV j327, (j322 31), (j322 32), (j322 33), (j322 34)], []⟩) rfl (by kernel_rfl) (by kernel_rfl) (by kernel_rfl) (fun ch_ a_ w_ q_ => (fun ch_ a_ w_ q_ => (fun ch_ a_ w_ q_ => (fun ch_ a_ w_ q_ => hnp ch_ a_ w_ (hp22 ch_ a_ w_ q_)) ch_ a_ w_ (hp236 ch_ a_ w_ q_)) ch_ a_ w_ (hp245 ch_ a_ w_ q_)) ch_ a_ w_ (hp366 ch_ a_ w_ q_)) (Sg.g1 (Sx.of [s324] (FM.le.refl _) HS370) (fun _ => St.only [] HS370 (FM.le.refl _))) ?_
        refine takeGQ 12 [] rfl (by kernel_rfl) (by kernel_rfl) (by kernel_rfl) (by kernel_rfl) (by kernel_rfl) (by kernel_rfl) (fun ch_ a_ w_ q_ => (fun ch_ a_ w_ q_ => (fun ch_ a_ w_ q_ => (fun ch_ a_ w_ q_ => hnp ch_ a_ w_ (hp22 ch_ a_ w_ q_)) ch_ a_ w_ (hp236 ch_ a_ w_ q_)) ch_ a_ w_ (hp245 ch_ a_ w_ q_)) ch_ a_ w_ (hp366 ch_ a_ w_ q_)) (Sg.g1 (Sx.of [s324] (FM.le.refl _) HS370) (fun _ => St.only [] HS370 (FM.le.refl _))) (fun w_ hw_ => by obtain ⟨g_, hl_, hS_⟩ := hw_.st; exact run_indexE hA342 (sz := 1) rfl Try.underlying22 (by kernel_rfl) (by kernel_rfl : _ = Value.slice A7 data323.length c8) (by kernel_rfl : _ = Value.int .i64 j327) c335 c336 w_) ?_
        refine takeGQ 13 [15] rfl (by kernel_rfl) (by kernel_rfl) (by kernel_rfl) (by kernel_rfl) (by kernel_rfl) (by kernel_rfl) (fun ch_ a_ w_ q_ => (fun ch_ a_ w_ q_ => (fun ch_ a_ w_ q_ => (fun ch_ a_ w_ q_ => hnp ch_ a_ w_ (hp22 ch_ a_ w_ q_)) ch_ a_ w_ (hp236 ch_ a_ w_ q_)) ch_ a_ w_ (hp245 ch_ a_ w_ q_)) ch_ a_ w_ (hp366 ch_ a_ w_ q_)) (Sg.g1 (Sx.of [s324] (FM.le.refl _) HS370) (fun _ => St.only [] HS370 (FM.le.refl _))) (fun w_ hw_ => by obtain ⟨g_, hl_, hS_⟩ := hw_.seg (j := 15) (s := s324) (by simp) (by simp); exact run_load rfl Try.underlying3 rfl (by kernel_rfl : _ = Value.pointer (some ⟨b340, of341 + (j327 : Int).toNat * 1, none⟩)) ((hc339 hS_) 0 (by decide))) ?_
        refine takeGQ 14 [] rfl (by kernel_rfl) (by kernel_rfl) (by kernel_rfl) (by kernel_rfl) (by kernel_rfl) (by kernel_rfl) (fun ch_ a_ w_ q_ => (fun ch_ a_ w_ q_ => (fun ch_ a_ w_ q_ => (fun ch_ a_ w_ q_ => hnp ch_ a_ w_ (hp22 ch_ a_ w_ q_)) ch_ a_ w_ (hp236 ch_ a_ w_ q_)) ch_ a_ w_ (hp245 ch_ a_ w_ q_)) ch_ a_ w_ (hp366 ch_ a_ w_ q_)) (Sg.g1 (Sx.of [s324] (FM.le.refl _) HS370) (fun _ => St.only [] HS370 (FM.le.refl _))) (fun w_ hw_ => by obtain ⟨g_, hl_, hS_⟩ := hw_.st; exact run_indexE hA342 (sz := 1) rfl Try.underlying22 (by kernel_rfl) (by kernel_rfl : _ = Value.slice A7 data323.length c8) (by kernel_rfl : _ = Value.int .i64 j327) c335 c336 w_) ?_
        refine takeGE 15 (by kernel_rfl) rfl (by kernel_rfl) (does_put (e := (tInt .i64)) (E := 3) (vs := [.int .i64 (rd data323 (w64 (j327 - 1)))]) (u := (rd data323 (w64 (j327 - 1)))) (i := j327) rfl (by kernel_rfl) (HO325.mono L354) HS370 hA342 (by kernel_rfl : _ = Value.pointer (some ⟨b340, of341 + (j327 : Int).toNat * 1, none⟩)) (by kernel_rfl : _ = Value.int .i64 (rd data323 (w64 (j327 - 1)))) rfl rfl c335 c336 ?_)
        intro W371 s372 HS373 HO374
        refine ⟨(Sg.g1 (Sx.of [s372] (FM.le.refl _) HS373) (fun hl_ => Bool.noConfusion (show true = false from hl_))), ?_⟩
        refine gateRwS 0 (A := A7) (m := data323.length) (n := (data323.set (j327).toNat (rd data323 (w64 (j327 - 1)))).length) (c := c8) (by kernel_rfl) (List.length_set).symm ?_
        refine gateRwS 23 (A := A7) (m := data323.length) (n := (data323.set (j327).toNat (rd data323 (w64 (j327 - 1)))).length) (c := c8) (by kernel_rfl) (List.length_set).symm ?_
        refine gateRwS 27 (A := A7) (m := data323.length) (n := (data323.set (j327).toNat (rd data323 (w64 (j327 - 1)))).length) (c := c8) (by kernel_rfl) (List.length_set).symm ?_
        refine gateRwS 37 (A := A7) (m := data323.length) (n := (data323.set (j327).toNat (rd data323 (w64 (j327 - 1)))).length) (c := c8) (by kernel_rfl) (List.length_set).symm ?_
        refine gateRwS 39 (A := A7) (m := data323.length) (n := (data323.set (j327).toNat (rd data323 (w64 (j327 - 1)))).length) (c := c8) (by kernel_rfl) (List.length_set).symm ?_
        refine gateRwS 42 (A := A7) (m := data323.length) (n := (data323.set (j327).toNat (rd data323 (w64 (j327 - 1)))).length) (c := c8) (by kernel_rfl) (List.length_set).symm ?_
        refine gateRwS 47 (A := A7) (m := data323.length) (n := (data323.set (j327).toNat (rd data323 (w64 (j327 - 1)))).length) (c := c8) (by kernel_rfl) (List.length_set).symm ?_
        have hq_ := guard_some h; clear h; obtain ⟨c375, h⟩ := hq_
        have c375 : (w64 (j327 - 1)) < ((data323.set (j327).toNat (rd data323 (w64 (j327 - 1)))).length : Int) := c375
        obtain ⟨b379, of380, cs376, hA381, hr377, hc378⟩ := HO374.at (i := w64 (j327 - 1)) c343 c375
        obtain rfl := hr377
        refine takeGQ 16 [] rfl (by kernel_rfl) (by kernel_rfl) (by kernel_rfl) (by kernel_rfl) (by kernel_rfl) (by kernel_rfl) (fun ch_ a_ w_ q_ => (fun ch_ a_ w_ q_ => (fun ch_ a_ w_ q_ => (fun ch_ a_ w_ q_ => hnp ch_ a_ w_ (hp22 ch_ a_ w_ q_)) ch_ a_ w_ (hp236 ch_ a_ w_ q_)) ch_ a_ w_ (hp245 ch_ a_ w_ q_)) ch_ a_ w_ (hp366 ch_ a_ w_ q_)) (Sg.g1 (Sx.of [s372] (FM.le.refl _) HS373) (fun hl_ => Bool.noConfusion (show true = false from hl_))) (fun w_ hw_ => by obtain ⟨g_, hl_, hS_⟩ := hw_.st; exact run_indexE hA381 (sz := 1) rfl Try.underlying22 (by kernel_rfl) (by kernel_rfl : _ = Value.slice A7 (data323.set (j327).toNat (rd data323 (w64 (j327 - 1)))).length c8) (by kernel_rfl : _ = Value.int .i64 (w64 (j327 - 1))) c343 c375 w_) ?_
        refine takeGE 17 (by kernel_rfl) rfl (by kernel_rfl) (does_put (e := (tInt .i64)) (E := 3) (vs := [.int .i64 (rd data323 j327)]) (u := (rd data323 j327)) (i := w64 (j327 - 1)) rfl (by kernel_rfl) HO374 HS373 hA381 (by kernel_rfl : _ = Value.pointer (some ⟨b379, of380 + (w64 (j327 - 1) : Int).toNat * 1, none⟩)) (by kernel_rfl : _ = Value.int .i64 (rd data323 j327)) rfl rfl c343 c375 ?_)
        intro W382 s383 HS384 HO385
        refine ⟨(Sg.g1 (Sx.of [s383] (FM.le.refl _) HS384) (fun hl_ => Bool.noConfusion (show true = false from hl_))), ?_⟩
        refine gateRwS 0 (A := A7) (m := (data323.set (j327).toNat (rd data323 (w64 (j327 - 1)))).length) (n := ((data323.set (j327).toNat (rd data323 (w64 (j327 - 1)))).set (w64 (j327 - 1)).toNat (rd data323 j327)).length) (c := c8) (by kernel_rfl) (List.length_set).symm ?_
        refine gateRwS 23 (A := A7) (m := (data323.set (j327).toNat (rd data323 (w64 (j327 - 1)))).length) (n := ((data323.set (j327).toNat (rd data323 (w64 (j327 - 1)))).set (w64 (j327 - 1)).toNat (rd data323 j327)).length) (c := c8) (by kernel_rfl) (List.length_set).symm ?_
        refine gateRwS 27 (A := A7) (m := (data323.set (j327).toNat (rd data323 (w64 (j327 - 1)))).length) (n := ((data323.set (j327).toNat (rd data323 (w64 (j327 - 1)))).set (w64 (j327 - 1)).toNat (rd data323 j327)).length) (c := c8) (by kernel_rfl) (List.length_set).symm ?_
        refine gateRwS 37 (A := A7) (m := (data323.set (j327).toNat (rd data323 (w64 (j327 - 1)))).length) (n := ((data323.set (j327).toNat (rd data323 (w64 (j327 - 1)))).set (w64 (j327 - 1)).toNat (rd data323 j327)).length) (c := c8) (by kernel_rfl) (List.length_set).symm ?_
        refine gateRwS 39 (A := A7) (m := (data323.set (j327).toNat (rd data323 (w64 (j327 - 1)))).length) (n := ((data323.set (j327).toNat (rd data323 (w64 (j327 - 1)))).set (w64 (j327 - 1)).toNat (rd data323 j327)).length) (c := c8) (by kernel_rfl) (List.length_set).symm ?_
        refine gateRwS 42 (A := A7) (m := (data323.set (j327).toNat (rd data323 (w64 (j327 - 1)))).length) (n := ((data323.set (j327).toNat (rd data323 (w64 (j327 - 1)))).set (w64 (j327 - 1)).toNat (rd data323 j327)).length) (c := c8) (by kernel_rfl) (List.length_set).symm ?_
        refine gateRwS 47 (A := A7) (m := (data323.set (j327).toNat (rd data323 (w64 (j327 - 1)))).length) (n := ((data323.set (j327).toNat (rd data323 (w64 (j327 - 1)))).set (w64 (j327 - 1)).toNat (rd data323 j327)).length) (c := c8) (by kernel_rfl) (List.length_set).symm ?_
        refine doneG (by kernel_rfl) ?_ _
        refine hn363 _ _ ?_
        refine hK360 _ _ ?_
        refine wp_region_lit ?_
        refine seqS3 (a' := ⟨#[.slice A7 ((data323.set (j327).toNat (rd data323 (w64 (j327 - 1)))).set (w64 (j327 - 1)).toNat (rd data323 j327)).length c8, iV a13, iV b14, .func (.func 99) #[] #[.pointer (some ⟨b1, 0, none⟩)], uV, uV, uV, uV, iV i222, iV (w64 (j327 - 1)), iV a13, iV (w64 (a13 + 1)), iV i222, iV b14, .bool true, (j217 4), (j217 5), iV i222, iV j327, iV a13, .bool true, .bool true, .func (.func 99) #[] #[.pointer (some ⟨b1, 0, none⟩)], .slice A7 ((data323.set (j327).toNat (rd data323 (w64 (j327 - 1)))).set (w64 (j327 - 1)).toNat (rd data323 j327)).length c8, iV j327, .pointer (some ⟨b340, of341 + (j327 : Int).toNat * 1, none⟩), iV (rd data323 j327), .slice A7 ((data323.set (j327).toNat (rd data323 (w64 (j327 - 1)))).set (w64 (j327 - 1)).toNat (rd data323 j327)).length c8, iV j327, iV (w64 (j327 - 1)), .pointer (some ⟨b348, of349 + (w64 (j327 - 1) : Int).toNat * 1, none⟩), iV (rd data323 (w64 (j327 - 1))), iV vt351, .bool true, .bool true, iV j327, iV (w64 (j327 - 1)), .slice A7 ((data323.set (j327).toNat (rd data323 (w64 (j327 - 1)))).set (w64 (j327 - 1)).toNat (rd data323 j327)).length c8, iV j327, .slice A7 ((data323.set (j327).toNat (rd data323 (w64 (j327 - 1)))).set (w64 (j327 - 1)).toNat (rd data323 j327)).length c8, iV j327, iV (w64 (j327 - 1)), .slice A7 ((data323.set (j327).toNat (rd data323 (w64 (j327 - 1)))).set (w64 (j327 - 1)).toNat (rd data323 j327)).length c8, iV j327, iV (w64 (j327 - 1)), .pointer (some ⟨b348, of349 + (w64 (j327 - 1) : Int).toNat * 1, none⟩), iV (rd data323 (w64 (j327 - 1))), .slice A7 ((data323.set (j327).toNat (rd data323 (w64 (j327 - 1)))).set (w64 (j327 - 1)).toNat (rd data323 j327)).length c8, iV j327, .pointer (some ⟨b340, of341 + (j327 : Int).toNat * 1, none⟩), iV (rd data323 j327), .pointer (some ⟨b340, of341 + (j327 : Int).toNat * 1, none⟩), .pointer (some ⟨b379, of380 + (w64 (j327 - 1) : Int).toNat * 1, none⟩)], []⟩) (by kernel_rfl) ?_
        refine wpList_nil ?_
        refine hK316 n317 _ _ (Nat.lt_succ_self _) ?_
        have HS398 := HS384.u1
        exact ⟨f353, s383, ((data323.set (j327).toNat (rd data323 (w64 (j327 - 1)))).set (w64 (j327 - 1)).toNat (rd data323 j327)), (w64 (j327 - 1)), (fun i_ => [Value.int .i64 j327, Value.int .i64 a13, Value.bool true, Value.bool true, Value.func (.func 99) #[] #[.pointer (some ⟨b1, 0, none⟩)], Value.slice A7 ((data323.set (j327).toNat (rd data323 (w64 (j327 - 1)))).set (w64 (j327 - 1)).toNat (rd data323 j327)).length c8, Value.int .i64 j327, Value.pointer (some ⟨b340, of341 + (j327 : Int).toNat * 1, none⟩), Value.int .i64 (rd data323 j327), Value.slice A7 ((data323.set (j327).toNat (rd data323 (w64 (j327 - 1)))).set (w64 (j327 - 1)).toNat (rd data323 j327)).length c8, Value.int .i64 j327, Value.int .i64 (w64 (j327 - 1)), Value.pointer (some ⟨b348, of349 + (w64 (j327 - 1) : Int).toNat * 1, none⟩), Value.int .i64 (rd data323 (w64 (j327 - 1))), Value.int .i64 vt351, Value.bool true, Value.bool true, Value.int .i64 j327, Value.int .i64 (w64 (j327 - 1)), Value.slice A7 ((data323.set (j327).toNat (rd data323 (w64 (j327 - 1)))).set (w64 (j327 - 1)).toNat (rd data323 j327)).length c8, Value.int .i64 j327, Value.slice A7 ((data323.set (j327).toNat (rd data323 (w64 (j327 - 1)))).set (w64 (j327 - 1)).toNat (rd data323 j327)).length c8, Value.int .i64 j327, Value.int .i64 (w64 (j327 - 1)), Value.slice A7 ((data323.set (j327).toNat (rd data323 (w64 (j327 - 1)))).set (w64 (j327 - 1)).toNat (rd data323 j327)).length c8, Value.int .i64 j327, Value.int .i64 (w64 (j327 - 1)), Value.pointer (some ⟨b348, of349 + (w64 (j327 - 1) : Int).toNat * 1, none⟩), Value.int .i64 (rd data323 (w64 (j327 - 1))), Value.slice A7 ((data323.set (j327).toNat (rd data323 (w64 (j327 - 1)))).set (w64 (j327 - 1)).toNat (rd data323 j327)).length c8, Value.int .i64 j327, Value.pointer (some ⟨b340, of341 + (j327 : Int).toNat * 1, none⟩), Value.int .i64 (rd data323 j327), Value.pointer (some ⟨b340, of341 + (j327 : Int).toNat * 1, none⟩), Value.pointer (some ⟨b379, of380 + (w64 (j327 - 1) : Int).toNat * 1, none⟩)].getD i_ undef), (L319.trans L354), HS398, HO385, (List.length_set.trans (List.length_set.trans HL326)), h, (by kernel_rfl)⟩
      · have c358 : ¬ (vt351 < 0) := c358
        refine wpRwI 33 (x := (decide (vt351 < 0))) (v := false) (by kernel_rfl) (decide_eq_false c358) ?_
        refine wpRwI 34 (x := (decide (vt351 < 0))) (v := false) (by kernel_rfl) (decide_eq_false c358) ?_
        refine condF (by kernel_rfl) ?_
        refine wp_exit ?_
        refine hx241 _ _ ?_
        exact J396 f353 s324 data323 (fun i_ => [Value.int .i64 j327, Value.int .i64 j327, Value.int .i64 a13, Value.bool true, Value.bool true, Value.func (.func 99) #[] #[.pointer (some ⟨b1, 0, none⟩)], Value.slice A7 data323.length c8, Value.int .i64 j327, Value.pointer (some ⟨b340, of341 + (j327 : Int).toNat * 1, none⟩), Value.int .i64 (rd data323 j327), Value.slice A7 data323.length c8, Value.int .i64 j327, Value.int .i64 (w64 (j327 - 1)), Value.pointer (some ⟨b348, of349 + (w64 (j327 - 1) : Int).toNat * 1, none⟩), Value.int .i64 (rd data323 (w64 (j327 - 1))), Value.int .i64 vt351, Value.bool false, Value.bool false, (j322 17), (j322 18), (j322 19), (j322 20), (j322 21), (j322 22), (j322 23), (j322 24), (j322 25), (j322 26), (j322 27), (j322 28), (j322 29), (j322 30), (j322 31), (j322 32), (j322 33), (j322 34)].getD i_ undef) W355 _ (L319.trans L354) h HS356 (HO325.mono L354) HL326 (by kernel_rfl)
    · have c334 : ¬ (j327 > a13) := c334
      refine gateRwI 20 (x := (decide (j327 > a13))) (v := false) (by kernel_rfl) (decide_eq_false c334) ?_
      refine gateRwI 21 (x := (decide (j327 > a13))) (v := false) (by kernel_rfl) (decide_eq_false c334) ?_
      refine takeG [4, 5, 6, 7, 8, 9, 10, 11, 12, 13, 14, 15, 16] (n := 13) (fuel := 0) (l' := #[true, true, true, true, true, true, true, true, true, true, true, true, true, true, true, true, true]) (a' := ⟨#[.slice A7 data323.length c8, iV a13, iV b14, .func (.func 99) #[] #[.pointer (some ⟨b1, 0, none⟩)], uV, uV, uV, uV, iV i222, iV j327, iV a13, iV (w64 (a13 + 1)), iV i222, iV b14, .bool true, (j217 4), (j217 5), iV i222, iV j327, iV a13, .bool false, .bool false, uV, uV, uV, uV, uV, uV, uV, uV, uV, uV, uV, uV, .bool false, (j322 17), (j322 18), (j322 19), (j322 20), (j322 21), (j322 22), (j322 23), (j322 24), (j322 25), (j322 26), (j322 27), (j322 28), (j322 29), (j322 30), (j322 31), (j322 32), (j322 33), (j322 34)], []⟩) rfl (by kernel_rfl) (by kernel_rfl) (by kernel_rfl) (fun ch_ a_ w_ q_ => (fun ch_ a_ w_ q_ => (fun ch_ a_ w_ q_ => hnp ch_ a_ w_ (hp22 ch_ a_ w_ q_)) ch_ a_ w_ (hp236 ch_ a_ w_ q_)) ch_ a_ w_ (hp245 ch_ a_ w_ q_)) (Sg.g0 (Sx.of [] (FM.le.refl _) HS333)) ?_
      refine doneG (by kernel_rfl) ?_ _
      refine hK331 _ _ ?_
      refine condF (by kernel_rfl) ?_
      refine wp_exit ?_
      refine hx241 _ _ ?_
      exact J396 f318 s324 data323 (fun i_ => [Value.int .i64 j327, Value.int .i64 j327, Value.int .i64 a13, Value.bool false, Value.bool false, undef, undef, undef, undef, undef, undef, undef, undef, undef, undef, undef, undef, Value.bool false, (j322 17), (j322 18), (j322 19), (j322 20), (j322 21), (j322 22), (j322 23), (j322 24), (j322 25), (j322 26), (j322 27), (j322 28), (j322 29), (j322 30), (j322 31), (j322 32), (j322 33), (j322 34)].getD i_ undef) W332 _ L319 h HS333 HO325 HL326 (by kernel_rfl)
  · have c228 : ¬ (i222 < b14) := c228
    refine wpRwI 14 (x := (decide (i222 < b14))) (v := false) (by kernel_rfl) (decide_eq_false c228) ?_
    refine condF (by kernel_rfl) ?_
    refine wp_exit ?_
    refine hx18 _ _ ?_
    exact J409 f213 s219 data218 (fun i_ => [Value.int .i64 i222, (j217 0), Value.int .i64 i222, Value.int .i64 b14, Value.bool false, (j217 4), (j217 5), (j217 6), (j217 7), (j217 8), (j217 9), (j217 10), (j217 11), (j217 12), (j217 13), (j217 14), (j217 15), (j217 16), (j217 17), (j217 18), (j217 19), (j217 20), (j217 21), (j217 22), (j217 23), (j217 24), (j217 25), (j217 26), (j217 27), (j217 28), (j217 29), (j217 30), (j217 31), (j217 32), (j217 33), (j217 34), (j217 35), (j217 36), (j217 37), (j217 38), (j217 39), (j217 40), (j217 41)].getD i_ undef) W215 _ L214 h HS216 HO220 HL221 (by kernel_rfl)

set_option maxRecDepth 100000 in
set_option maxHeartbeats 4000000 in
theorem slices_swapRangeCmpFunc_int__level_known_1.calls (k : Nat) (b1 : Nat) (A4 : Option Addr) (c5 : Nat) (A7 : Option Addr) (c8 : Nat) (s9 : Seg) (v3 : S_Cells) (data11 : List Int) (a13 : Int) (b14 : Int) (n15 : Int) {t w : World} {f : FM} {H : List Seg} (HS : St t w f ([(b1, .cells #[.int .i64 v3.W, .int .i64 v3.H, .slice A4 v3.At.length c5] 34 (0, 0))] :: s9 :: H)) (HR6 : SlR ty_Bound f A4 c5 v3.At) (HO10 : Own (tInt .i64) 3 f A7 c8 s9 data11) (r1 : List Int) (h : slices_swapRangeCmpFunc_int__level_known_1 k v3 data11 a13 b14 n15 = some r1) :
    Calls Try.prog 147 #[.slice A7 data11.length c8, .int .i64 a13, .int .i64 b14, .int .i64 n15, .func (.func 99) #[] #[.pointer (some ⟨b1, 0, none⟩)]] w (fun e w' => ∃ (g : FM) (s159 : Seg), e = .returned (Value.tuple #[]) ∧ FM.le f g ∧ St t w' g ([(b1, .cells #[.int .i64 v3.W, .int .i64 v3.H, .slice A4 v3.At.length c5] 34 (0, 0))] :: s159 :: H) ∧ Own (tInt .i64) 3 g A7 c8 s159 r1 ∧ r1.length = data11.length) := by
  unfold slices_swapRangeCmpFunc_int__level_known_1 at h
  refine enter Try.func147 rfl (tm := #[.slice A7 data11.length c8, iV a13, iV b14, iV n15, .func (.func 99) #[] #[.pointer (some ⟨b1, 0, none⟩)], uV, uV, uV, uV, uV, uV, uV, uV, uV, uV, uV, uV, uV, uV, uV, uV, uV, uV, uV, uV, uV, uV, uV, uV, uV, uV, uV, uV, uV, uV, uV, uV, uV]) (by kernel_rfl) ?_
  intro B hret hnor hnp
  refine wp_seq_k (fun K16 hK17 => ?_)
  refine wp_region_lit ?_
  refine seqS1 (a' := ⟨#[.slice A7 data11.length c8, iV a13, iV b14, iV n15, .func (.func 99) #[] #[.pointer (some ⟨b1, 0, none⟩)], uV, uV, uV, uV, uV, iV 0, uV, uV, uV, uV, uV, uV, uV, uV, uV, uV, uV, uV, uV, uV, uV, uV, uV, uV, uV, uV, uV, uV, uV, uV, uV, uV, uV], []⟩) (by kernel_rfl) ?_
  refine wpList_nil ?_
  refine hK17 _ _ ?_
  refine blockK (fun B18 hx19 hn20 hr21 ho22 hp23 => ?_)
  have hq_ := bind_some h; clear h; obtain ⟨o83, hv155, h⟩ := hq_
  have J156 : ∀ (f146 : FM) (s152 : Seg) (data151 : List Int) (j150 : Nat → Value) (W148 : World) (a_ : Act), FM.le f f146 → some (data151) = some o83 → St t W148 f146 ([(b1, .cells #[.int .i64 v3.W, .int .i64 v3.H, .slice A4 v3.At.length c5] 34 (0, 0))] :: s152 :: H) → Own (tInt .i64) 3 f146 A7 c8 s152 data151 → data151.length = data11.length → a_ = ⟨#[.slice A7 data151.length c8, iV a13, iV b14, iV n15, .func (.func 99) #[] #[.pointer (some ⟨b1, 0, none⟩)], uV, uV, uV, uV, uV, (j150 0), (j150 1), (j150 2), (j150 3), (j150 4), (j150 5), (j150 6), (j150 7), (j150 8), (j150 9), (j150 10), (j150 11), (j150 12), (j150 13), (j150 14), (j150 15), (j150 16), (j150 17), (j150 18), (j150 19), (j150 20), (j150 21), (j150 22), (j150 23), (j150 24), (j150 25), (j150 26), (j150 27)], []⟩ → B Exit.normal a_ W148 := by
    intro f146 s152 data151 j150 W148 a_ L147 hj157 HS149 HO153 HL154 hfr_; subst hfr_
    injection hj157 with hj157; subst hj157; try dsimp only at h
    refine hnor _ _ ?_
    refine ends_still (v := Value.tuple #[]) (by kernel_rfl) (by kernel_rfl) ?_
    injection h with h
    subst h
    exact ⟨f146, s152, rfl, L147, HS149, HO153, HL154⟩
  clear h; have h := hv155; clear hv155
  refine loopK (fun n_ a_ w_ => ∃ (f87 : FM) (s93 : Seg) (data92 : List Int) (i96 : Int) (j91 : Nat → Value), FM.le f f87 ∧ St t w_ f87 ([(b1, .cells #[.int .i64 v3.W, .int .i64 v3.H, .slice A4 v3.At.length c5] 34 (0, 0))] :: s93 :: H) ∧ Own (tInt .i64) 3 f87 A7 c8 s93 data92 ∧ data92.length = data11.length ∧ slices_swapRangeCmpFunc_int__level_known_1.l0 k n15 b14 a13 n_ data92 i96 = some o83 ∧ a_ = ⟨#[.slice A7 data92.length c8, iV a13, iV b14, iV n15, .func (.func 99) #[] #[.pointer (some ⟨b1, 0, none⟩)], uV, uV, uV, uV, uV, iV i96, (j91 0), (j91 1), (j91 2), (j91 3), (j91 4), (j91 5), (j91 6), (j91 7), (j91 8), (j91 9), (j91 10), (j91 11), (j91 12), (j91 13), (j91 14), (j91 15), (j91 16), (j91 17), (j91 18), (j91 19), (j91 20), (j91 21), (j91 22), (j91 23), (j91 24), (j91 25), (j91 26)], []⟩) k ⟨f, s9, data11, 0, (fun i_ => [undef, undef, undef, undef, undef, undef, undef, undef, undef, undef, undef, undef, undef, undef, undef, undef, undef, undef, undef, undef, undef, undef, undef, undef, undef, undef, undef].getD i_ undef), (FM.le.refl _), HS, HO10, rfl, h, (by kernel_rfl)⟩ ?_
  clear h
  rintro n86 _ W89 ⟨f87, s93, data92, i96, j91, L88, HS90, HO94, HL95, h, rfl⟩ K84 hK85
  obtain _ | n86 := n86
  · exact nomatch h
  simp only [slices_swapRangeCmpFunc_int__level_known_1.l0] at h
  refine wp_seq_k (fun K97 hK98 => ?_)
  refine wp_seq_k (fun K99 hK100 => ?_)
  refine wp_region_lit ?_
  refine seqS3 (a' := ⟨#[.slice A7 data92.length c8, iV a13, iV b14, iV n15, .func (.func 99) #[] #[.pointer (some ⟨b1, 0, none⟩)], uV, uV, uV, uV, uV, iV i96, iV i96, iV n15, .bool (decide (i96 < n15)), (j91 3), (j91 4), (j91 5), (j91 6), (j91 7), (j91 8), (j91 9), (j91 10), (j91 11), (j91 12), (j91 13), (j91 14), (j91 15), (j91 16), (j91 17), (j91 18), (j91 19), (j91 20), (j91 21), (j91 22), (j91 23), (j91 24), (j91 25), (j91 26)], []⟩) (by kernel_rfl) ?_
  refine wpList_nil ?_
  refine hK100 _ _ ?_
  have hq_ := ite_some h; clear h; rcases hq_ with ⟨c102, h⟩ | ⟨c102, h⟩
  · have c102 : i96 < n15 := c102
    refine wpRwI 13 (x := (decide (i96 < n15))) (v := true) (by kernel_rfl) (decide_eq_true c102) ?_
    refine condT (by kernel_rfl) ?_
    refine wp_skip ?_
    refine hK98 _ _ ?_
    refine wp_seq_k (fun K103 hK104 => ?_)
    refine blockK (fun B105 hx106 hn107 hr108 ho109 hp110 => ?_)
    have HS112 := HS90.u1
    refine heldG (S := Sg t f87 ([(b1, .cells #[.int .i64 v3.W, .int .i64 v3.H, .slice A4 v3.At.length c5] 34 (0, 0))] :: H) [(21, s93)]) (n := 24) (by kernel_rfl) rfl HS112 ?_
    intro W113 HS114
    have hq_ := guard_some h; clear h; obtain ⟨c115, h⟩ := hq_
    have c115 : 0 ≤ (w64 (b14 + i96)) := c115
    have hq_ := guard_some h; clear h; obtain ⟨c116, h⟩ := hq_
    have c116 : (w64 (b14 + i96)) < (data92.length : Int) := c116
    obtain ⟨b120, of121, cs117, hA122, hr118, hc119⟩ := HO94.at (i := w64 (b14 + i96)) c115 c116
    obtain rfl := hr118
    refine takeG [0, 1, 2, 3, 4, 5, 6, 7, 8, 9, 10, 11] (n := 24) (fuel := 12) (l' := #[true, true, true, true, true, true, true, true, true, true, true, true, false, false, false, false, false, false, false, false, false, false, false, false]) (a' := ⟨#[.slice A7 data92.length c8, iV a13, iV b14, iV n15, .func (.func 99) #[] #[.pointer (some ⟨b1, 0, none⟩)], uV, uV, uV, uV, uV, iV i96, iV i96, iV n15, .bool true, (j91 3), (j91 4), .slice A7 data92.length c8, iV a13, iV i96, iV (w64 (a13 + i96)), .slice A7 data92.length c8, iV b14, iV i96, iV (w64 (b14 + i96)), .slice A7 data92.length c8, iV b14, iV i96, iV (w64 (b14 + i96)), (j91 17), (j91 18), (j91 19), (j91 20), (j91 21), (j91 22), (j91 23), (j91 24), (j91 25), (j91 26)], []⟩) rfl (by kernel_rfl) (by kernel_rfl) (by kernel_rfl) (fun ch_ a_ w_ q_ => (fun ch_ a_ w_ q_ => hnp ch_ a_ w_ (hp23 ch_ a_ w_ q_)) ch_ a_ w_ (hp110 ch_ a_ w_ q_)) (Sg.g1 (Sx.of [s93] (FM.le.refl _) HS114) (fun _ => St.only [] HS114 (FM.le.refl _))) ?_
    refine takeGQ 12 [] rfl (by kernel_rfl) (by kernel_rfl) (by kernel_rfl) (by kernel_rfl) (by kernel_rfl) (by kernel_rfl) (fun ch_ a_ w_ q_ => (fun ch_ a_ w_ q_ => hnp ch_ a_ w_ (hp23 ch_ a_ w_ q_)) ch_ a_ w_ (hp110 ch_ a_ w_ q_)) (Sg.g1 (Sx.of [s93] (FM.le.refl _) HS114) (fun _ => St.only [] HS114 (FM.le.refl _))) (fun w_ hw_ => by obtain ⟨g_, hl_, hS_⟩ := hw_.st; exact run_indexE hA122 (sz := 1) rfl Try.underlying22 (by kernel_rfl) (by kernel_rfl : _ = Value.slice A7 data92.length c8) (by kernel_rfl : _ = Value.int .i64 (w64 (b14 + i96))) c115 c116 w_) ?_
    refine takeGQ 13 [21] rfl (by kernel_rfl) (by kernel_rfl) (by kernel_rfl) (by kernel_rfl) (by kernel_rfl) (by kernel_rfl) (fun ch_ a_ w_ q_ => (fun ch_ a_ w_ q_ => hnp ch_ a_ w_ (hp23 ch_ a_ w_ q_)) ch_ a_ w_ (hp110 ch_ a_ w_ q_)) (Sg.g1 (Sx.of [s93] (FM.le.refl _) HS114) (fun _ => St.only [] HS114 (FM.le.refl _))) (fun w_ hw_ => by obtain ⟨g_, hl_, hS_⟩ := hw_.seg (j := 21) (s := s93) (by simp) (by simp); exact run_load rfl Try.underlying3 rfl (by kernel_rfl : _ = Value.pointer (some ⟨b120, of121 + (w64 (b14 + i96) : Int).toNat * 1, none⟩)) ((hc119 hS_) 0 (by decide))) ?_
    have hq_ := guard_some h; clear h; obtain ⟨c123, h⟩ := hq_
    have c123 : 0 ≤ (w64 (a13 + i96)) := c123
    have hq_ := guard_some h; clear h; obtain ⟨c124, h⟩ := hq_
    have c124 : (w64 (a13 + i96)) < (data92.length : Int) := c124
    obtain ⟨b128, of129, cs125, hA130, hr126, hc127⟩ := HO94.at (i := w64 (a13 + i96)) c123 c124
    obtain rfl := hr126
    refine takeG [14, 15, 16, 17] (n := 10) (fuel := 6) (l' := #[true, true, true, true, true, true, true, true, true, true, true, true, true, true, true, true, true, true, false, false, false, false, false, false]) (a' := ⟨#[.slice A7 data92.length c8, iV a13, iV b14, iV n15, .func (.func 99) #[] #[.pointer (some ⟨b1, 0, none⟩)], uV, uV, uV, uV, uV, iV i96, iV i96, iV n15, .bool true, (j91 3), (j91 4), .slice A7 data92.length c8, iV a13, iV i96, iV (w64 (a13 + i96)), .slice A7 data92.length c8, iV b14, iV i96, iV (w64 (b14 + i96)), .slice A7 data92.length c8, iV b14, iV i96, iV (w64 (b14 + i96)), .pointer (some ⟨b120, of121 + (w64 (b14 + i96) : Int).toNat * 1, none⟩), iV (rd data92 (w64 (b14 + i96))), .slice A7 data92.length c8, iV a13, iV i96, iV (w64 (a13 + i96)), (j91 23), (j91 24), (j91 25), (j91 26)], []⟩) rfl (by kernel_rfl) (by kernel_rfl) (by kernel_rfl) (fun ch_ a_ w_ q_ => (fun ch_ a_ w_ q_ => hnp ch_ a_ w_ (hp23 ch_ a_ w_ q_)) ch_ a_ w_ (hp110 ch_ a_ w_ q_)) (Sg.g1 (Sx.of [s93] (FM.le.refl _) HS114) (fun _ => St.only [] HS114 (FM.le.refl _))) ?_
    refine takeGQ 18 [] rfl (by kernel_rfl) (by kernel_rfl) (by kernel_rfl) (by kernel_rfl) (by kernel_rfl) (by kernel_rfl) (fun ch_ a_ w_ q_ => (fun ch_ a_ w_ q_ => hnp ch_ a_ w_ (hp23 ch_ a_ w_ q_)) ch_ a_ w_ (hp110 ch_ a_ w_ q_)) (Sg.g1 (Sx.of [s93] (FM.le.refl _) HS114) (fun _ => St.only [] HS114 (FM.le.refl _))) (fun w_ hw_ => by obtain ⟨g_, hl_, hS_⟩ := hw_.st; exact run_indexE hA130 (sz := 1) rfl Try.underlying22 (by kernel_rfl) (by kernel_rfl : _ = Value.slice A7 data92.length c8) (by kernel_rfl : _ = Value.int .i64 (w64 (a13 + i96))) c123 c124 w_) ?_
    refine takeGQ 19 [21] rfl (by kernel_rfl) (by kernel_rfl) (by kernel_rfl) (by kernel_rfl) (by kernel_rfl) (by kernel_rfl) (fun ch_ a_ w_ q_ => (fun ch_ a_ w_ q_ => hnp ch_ a_ w_ (hp23 ch_ a_ w_ q_)) ch_ a_ w_ (hp110 ch_ a_ w_ q_)) (Sg.g1 (Sx.of [s93] (FM.le.refl _) HS114) (fun _ => St.only [] HS114 (FM.le.refl _))) (fun w_ hw_ => by obtain ⟨g_, hl_, hS_⟩ := hw_.seg (j := 21) (s := s93) (by simp) (by simp); exact run_load rfl Try.underlying3 rfl (by kernel_rfl : _ = Value.pointer (some ⟨b128, of129 + (w64 (a13 + i96) : Int).toNat * 1, none⟩)) ((hc127 hS_) 0 (by decide))) ?_
    refine takeGQ 20 [] rfl (by kernel_rfl) (by kernel_rfl) (by kernel_rfl) (by kernel_rfl) (by kernel_rfl) (by kernel_rfl) (fun ch_ a_ w_ q_ => (fun ch_ a_ w_ q_ => hnp ch_ a_ w_ (hp23 ch_ a_ w_ q_)) ch_ a_ w_ (hp110 ch_ a_ w_ q_)) (Sg.g1 (Sx.of [s93] (FM.le.refl _) HS114) (fun _ => St.only [] HS114 (FM.le.refl _))) (fun w_ hw_ => by obtain ⟨g_, hl_, hS_⟩ := hw_.st; exact run_indexE hA130 (sz := 1) rfl Try.underlying22 (by kernel_rfl) (by kernel_rfl : _ = Value.slice A7 data92.length c8) (by kernel_rfl : _ = Value.int .i64 (w64 (a13 + i96))) c123 c124 w_) ?_
    refine takeGE 21 (by kernel_rfl) rfl (by kernel_rfl) (does_put (e := (tInt .i64)) (E := 3) (vs := [.int .i64 (rd data92 (w64 (b14 + i96)))]) (u := (rd data92 (w64 (b14 + i96)))) (i := w64 (a13 + i96)) rfl (by kernel_rfl) HO94 HS114 hA130 (by kernel_rfl : _ = Value.pointer (some ⟨b128, of129 + (w64 (a13 + i96) : Int).toNat * 1, none⟩)) (by kernel_rfl : _ = Value.int .i64 (rd data92 (w64 (b14 + i96)))) rfl rfl c123 c124 ?_)
    intro W131 s132 HS133 HO134
    refine ⟨(Sg.g1 (Sx.of [s132] (FM.le.refl _) HS133) (fun hl_ => Bool.noConfusion (show true = false from hl_))), ?_⟩
    refine gateRwS 0 (A := A7) (m := data92.length) (n := (data92.set (w64 (a13 + i96)).toNat (rd data92 (w64 (b14 + i96)))).length) (c := c8) (by kernel_rfl) (List.length_set).symm ?_
    refine gateRwS 16 (A := A7) (m := data92.length) (n := (data92.set (w64 (a13 + i96)).toNat (rd data92 (w64 (b14 + i96)))).length) (c := c8) (by kernel_rfl) (List.length_set).symm ?_
    refine gateRwS 20 (A := A7) (m := data92.length) (n := (data92.set (w64 (a13 + i96)).toNat (rd data92 (w64 (b14 + i96)))).length) (c := c8) (by kernel_rfl) (List.length_set).symm ?_
    refine gateRwS 24 (A := A7) (m := data92.length) (n := (data92.set (w64 (a13 + i96)).toNat (rd data92 (w64 (b14 + i96)))).length) (c := c8) (by kernel_rfl) (List.length_set).symm ?_
    refine gateRwS 30 (A := A7) (m := data92.length) (n := (data92.set (w64 (a13 + i96)).toNat (rd data92 (w64 (b14 + i96)))).length) (c := c8) (by kernel_rfl) (List.length_set).symm ?_
    have hq_ := guard_some h; clear h; obtain ⟨c135, h⟩ := hq_
    have c135 : (w64 (b14 + i96)) < ((data92.set (w64 (a13 + i96)).toNat (rd data92 (w64 (b14 + i96)))).length : Int) := c135
    obtain ⟨b139, of140, cs136, hA141, hr137, hc138⟩ := HO134.at (i := w64 (b14 + i96)) c115 c135
    obtain rfl := hr137
    refine takeGQ 22 [] rfl (by kernel_rfl) (by kernel_rfl) (by kernel_rfl) (by kernel_rfl) (by kernel_rfl) (by kernel_rfl) (fun ch_ a_ w_ q_ => (fun ch_ a_ w_ q_ => hnp ch_ a_ w_ (hp23 ch_ a_ w_ q_)) ch_ a_ w_ (hp110 ch_ a_ w_ q_)) (Sg.g1 (Sx.of [s132] (FM.le.refl _) HS133) (fun hl_ => Bool.noConfusion (show true = false from hl_))) (fun w_ hw_ => by obtain ⟨g_, hl_, hS_⟩ := hw_.st; exact run_indexE hA141 (sz := 1) rfl Try.underlying22 (by kernel_rfl) (by kernel_rfl : _ = Value.slice A7 (data92.set (w64 (a13 + i96)).toNat (rd data92 (w64 (b14 + i96)))).length c8) (by kernel_rfl : _ = Value.int .i64 (w64 (b14 + i96))) c115 c135 w_) ?_
    refine takeGE 23 (by kernel_rfl) rfl (by kernel_rfl) (does_put (e := (tInt .i64)) (E := 3) (vs := [.int .i64 (rd data92 (w64 (a13 + i96)))]) (u := (rd data92 (w64 (a13 + i96)))) (i := w64 (b14 + i96)) rfl (by kernel_rfl) HO134 HS133 hA141 (by kernel_rfl : _ = Value.pointer (some ⟨b139, of140 + (w64 (b14 + i96) : Int).toNat * 1, none⟩)) (by kernel_rfl : _ = Value.int .i64 (rd data92 (w64 (a13 + i96)))) rfl rfl c115 c135 ?_)
    intro W142 s143 HS144 HO145
    refine ⟨(Sg.g1 (Sx.of [s143] (FM.le.refl _) HS144) (fun hl_ => Bool.noConfusion (show true = false from hl_))), ?_⟩
    refine gateRwS 0 (A := A7) (m := (data92.set (w64 (a13 + i96)).toNat (rd data92 (w64 (b14 + i96)))).length) (n := ((data92.set (w64 (a13 + i96)).toNat (rd data92 (w64 (b14 + i96)))).set (w64 (b14 + i96)).toNat (rd data92 (w64 (a13 + i96)))).length) (c := c8) (by kernel_rfl) (List.length_set).symm ?_
    refine gateRwS 16 (A := A7) (m := (data92.set (w64 (a13 + i96)).toNat (rd data92 (w64 (b14 + i96)))).length) (n := ((data92.set (w64 (a13 + i96)).toNat (rd data92 (w64 (b14 + i96)))).set (w64 (b14 + i96)).toNat (rd data92 (w64 (a13 + i96)))).length) (c := c8) (by kernel_rfl) (List.length_set).symm ?_
    refine gateRwS 20 (A := A7) (m := (data92.set (w64 (a13 + i96)).toNat (rd data92 (w64 (b14 + i96)))).length) (n := ((data92.set (w64 (a13 + i96)).toNat (rd data92 (w64 (b14 + i96)))).set (w64 (b14 + i96)).toNat (rd data92 (w64 (a13 + i96)))).length) (c := c8) (by kernel_rfl) (List.length_set).symm ?_
    refine gateRwS 24 (A := A7) (m := (data92.set (w64 (a13 + i96)).toNat (rd data92 (w64 (b14 + i96)))).length) (n := ((data92.set (w64 (a13 + i96)).toNat (rd data92 (w64 (b14 + i96)))).set (w64 (b14 + i96)).toNat (rd data92 (w64 (a13 + i96)))).length) (c := c8) (by kernel_rfl) (List.length_set).symm ?_
    refine gateRwS 30 (A := A7) (m := (data92.set (w64 (a13 + i96)).toNat (rd data92 (w64 (b14 + i96)))).length) (n := ((data92.set (w64 (a13 + i96)).toNat (rd data92 (w64 (b14 + i96)))).set (w64 (b14 + i96)).toNat (rd data92 (w64 (a13 + i96)))).length) (c := c8) (by kernel_rfl) (List.length_set).symm ?_
    refine doneG (by kernel_rfl) ?_ _
    refine hn107 _ _ ?_
    refine hK104 _ _ ?_
    refine wp_region_lit ?_
    refine seqS3 (a' := ⟨#[.slice A7 ((data92.set (w64 (a13 + i96)).toNat (rd data92 (w64 (b14 + i96)))).set (w64 (b14 + i96)).toNat (rd data92 (w64 (a13 + i96)))).length c8, iV a13, iV b14, iV n15, .func (.func 99) #[] #[.pointer (some ⟨b1, 0, none⟩)], uV, uV, uV, uV, uV, iV (w64 (i96 + 1)), iV i96, iV n15, .bool true, iV i96, iV (w64 (i96 + 1)), .slice A7 ((data92.set (w64 (a13 + i96)).toNat (rd data92 (w64 (b14 + i96)))).set (w64 (b14 + i96)).toNat (rd data92 (w64 (a13 + i96)))).length c8, iV a13, iV i96, iV (w64 (a13 + i96)), .slice A7 ((data92.set (w64 (a13 + i96)).toNat (rd data92 (w64 (b14 + i96)))).set (w64 (b14 + i96)).toNat (rd data92 (w64 (a13 + i96)))).length c8, iV b14, iV i96, iV (w64 (b14 + i96)), .slice A7 ((data92.set (w64 (a13 + i96)).toNat (rd data92 (w64 (b14 + i96)))).set (w64 (b14 + i96)).toNat (rd data92 (w64 (a13 + i96)))).length c8, iV b14, iV i96, iV (w64 (b14 + i96)), .pointer (some ⟨b120, of121 + (w64 (b14 + i96) : Int).toNat * 1, none⟩), iV (rd data92 (w64 (b14 + i96))), .slice A7 ((data92.set (w64 (a13 + i96)).toNat (rd data92 (w64 (b14 + i96)))).set (w64 (b14 + i96)).toNat (rd data92 (w64 (a13 + i96)))).length c8, iV a13, iV i96, iV (w64 (a13 + i96)), .pointer (some ⟨b128, of129 + (w64 (a13 + i96) : Int).toNat * 1, none⟩), iV (rd data92 (w64 (a13 + i96))), .pointer (some ⟨b128, of129 + (w64 (a13 + i96) : Int).toNat * 1, none⟩), .pointer (some ⟨b139, of140 + (w64 (b14 + i96) : Int).toNat * 1, none⟩)], []⟩) (by kernel_rfl) ?_
    refine wpList_nil ?_
    refine hK85 n86 _ _ (Nat.lt_succ_self _) ?_
    have HS158 := HS144.u1
    exact ⟨f87, s143, ((data92.set (w64 (a13 + i96)).toNat (rd data92 (w64 (b14 + i96)))).set (w64 (b14 + i96)).toNat (rd data92 (w64 (a13 + i96)))), (w64 (i96 + 1)), (fun i_ => [Value.int .i64 i96, Value.int .i64 n15, Value.bool true, Value.int .i64 i96, Value.int .i64 (w64 (i96 + 1)), Value.slice A7 ((data92.set (w64 (a13 + i96)).toNat (rd data92 (w64 (b14 + i96)))).set (w64 (b14 + i96)).toNat (rd data92 (w64 (a13 + i96)))).length c8, Value.int .i64 a13, Value.int .i64 i96, Value.int .i64 (w64 (a13 + i96)), Value.slice A7 ((data92.set (w64 (a13 + i96)).toNat (rd data92 (w64 (b14 + i96)))).set (w64 (b14 + i96)).toNat (rd data92 (w64 (a13 + i96)))).length c8, Value.int .i64 b14, Value.int .i64 i96, Value.int .i64 (w64 (b14 + i96)), Value.slice A7 ((data92.set (w64 (a13 + i96)).toNat (rd data92 (w64 (b14 + i96)))).set (w64 (b14 + i96)).toNat (rd data92 (w64 (a13 + i96)))).length c8, Value.int .i64 b14, Value.int .i64 i96, Value.int .i64 (w64 (b14 + i96)), Value.pointer (some ⟨b120, of121 + (w64 (b14 + i96) : Int).toNat * 1, none⟩), Value.int .i64 (rd data92 (w64 (b14 + i96))), Value.slice A7 ((data92.set (w64 (a13 + i96)).toNat (rd data92 (w64 (b14 + i96)))).set (w64 (b14 + i96)).toNat (rd data92 (w64 (a13 + i96)))).length c8, Value.int .i64 a13, Value.int .i64 i96, Value.int .i64 (w64 (a13 + i96)), Value.pointer (some ⟨b128, of129 + (w64 (a13 + i96) : Int).toNat * 1, none⟩), Value.int .i64 (rd data92 (w64 (a13 + i96))), Value.pointer (some ⟨b128, of129 + (w64 (a13 + i96) : Int).toNat * 1, none⟩), Value.pointer (some ⟨b139, of140 + (w64 (b14 + i96) : Int).toNat * 1, none⟩)].getD i_ undef), L88, HS158, HO145, (List.length_set.trans (List.length_set.trans HL95)), h, (by kernel_rfl)⟩
  · have c102 : ¬ (i96 < n15) := c102
    refine wpRwI 13 (x := (decide (i96 < n15))) (v := false) (by kernel_rfl) (decide_eq_false c102) ?_
    refine condF (by kernel_rfl) ?_
    refine wp_exit ?_
    refine hx19 _ _ ?_
    exact J156 f87 s93 data92 (fun i_ => [Value.int .i64 i96, Value.int .i64 i96, Value.int .i64 n15, Value.bool false, (j91 3), (j91 4), (j91 5), (j91 6), (j91 7), (j91 8), (j91 9), (j91 10), (j91 11), (j91 12), (j91 13), (j91 14), (j91 15), (j91 16), (j91 17), (j91 18), (j91 19), (j91 20), (j91 21), (j91 22), (j91 23), (j91 24), (j91 25), (j91 26)].getD i_ undef) W89 _ L88 h HS90 HO94 HL95 (by kernel_rfl)

set_option maxRecDepth 100000 in
set_option maxHeartbeats 4000000 in
theorem slices_rotateCmpFunc_int__level_known_1.calls (k : Nat) (b1 : Nat) (A4 : Option Addr) (c5 : Nat) (A7 : Option Addr) (c8 : Nat) (s9 : Seg) (v3 : S_Cells) (data11 : List Int) (a13 : Int) (m14 : Int) (b15 : Int) {t w : World} {f : FM} {H : List Seg} (HS : St t w f ([(b1, .cells #[.int .i64 v3.W, .int .i64 v3.H, .slice A4 v3.At.length c5] 34 (0, 0))] :: s9 :: H)) (HR6 : SlR ty_Bound f A4 c5 v3.At) (HO10 : Own (tInt .i64) 3 f A7 c8 s9 data11) (r1 : List Int) (h : slices_rotateCmpFunc_int__level_known_1 k v3 data11 a13 m14 b15 = some r1) :
    Calls Try.prog 145 #[.slice A7 data11.length c8, .int .i64 a13, .int .i64 m14, .int .i64 b15, .func (.func 99) #[] #[.pointer (some ⟨b1, 0, none⟩)]] w (fun e w' => ∃ (g : FM) (s164 : Seg), e = .returned (Value.tuple #[]) ∧ FM.le f g ∧ St t w' g ([(b1, .cells #[.int .i64 v3.W, .int .i64 v3.H, .slice A4 v3.At.length c5] 34 (0, 0))] :: s164 :: H) ∧ Own (tInt .i64) 3 g A7 c8 s164 r1 ∧ r1.length = data11.length) := by
  unfold slices_rotateCmpFunc_int__level_known_1 at h
  refine enter Try.func145 rfl (tm := #[.slice A7 data11.length c8, iV a13, iV m14, iV b15, .func (.func 99) #[] #[.pointer (some ⟨b1, 0, none⟩)], uV, uV, uV, uV, uV, uV, uV, uV, uV, uV, uV, uV, uV, uV, uV, uV, uV, uV, uV, uV, uV, uV, uV, uV, uV, uV, uV, uV, uV, uV, uV, uV, uV, uV, uV, uV, uV, uV, uV, uV, uV, uV, uV, uV, uV, uV, uV, uV, uV, uV, uV, uV, uV]) (by kernel_rfl) ?_
  intro B hret hnor hnp
  refine wp_seq_k (fun K16 hK17 => ?_)
  refine wp_region_lit ?_
  refine seqS4 (a' := ⟨#[.slice A7 data11.length c8, iV a13, iV m14, iV b15, .func (.func 99) #[] #[.pointer (some ⟨b1, 0, none⟩)], uV, uV, uV, uV, uV, iV (w64 (m14 - a13)), uV, iV m14, iV a13, iV (w64 (m14 - a13)), uV, uV, uV, uV, uV, uV, uV, uV, uV, uV, uV, uV, uV, uV, uV, uV, uV, uV, uV, uV, uV, uV, uV, uV, uV, uV, uV, uV, uV, uV, uV, uV, uV, uV, uV, uV, uV, uV, uV, uV, uV, uV, uV], []⟩) (by kernel_rfl) ?_
  refine wpList_nil ?_
  refine hK17 _ _ ?_
  refine wp_seq_k (fun K18 hK19 => ?_)
  refine wp_region_lit ?_
  refine seqS4 (a' := ⟨#[.slice A7 data11.length c8, iV a13, iV m14, iV b15, .func (.func 99) #[] #[.pointer (some ⟨b1, 0, none⟩)], uV, uV, uV, uV, uV, iV (w64 (m14 - a13)), iV (w64 (b15 - m14)), iV m14, iV a13, iV (w64 (m14 - a13)), iV b15, iV m14, iV (w64 (b15 - m14)), uV, uV, uV, uV, uV, uV, uV, uV, uV, uV, uV, uV, uV, uV, uV, uV, uV, uV, uV, uV, uV, uV, uV, uV, uV, uV, uV, uV, uV, uV, uV, uV, uV, uV, uV, uV, uV, uV, uV, uV], []⟩) (by kernel_rfl) ?_
  refine wpList_nil ?_
  refine hK19 _ _ ?_
  refine wp_seq_k (fun K20 hK21 => ?_)
  refine blockK (fun B22 hx23 hn24 hr25 ho26 hp27 => ?_)
  have hq_ := bind_some h; clear h; obtain ⟨o82, hv150, h⟩ := hq_
  have J151 : ∀ (f140 : FM) (s146 : Seg) (data145 : List Int) (i149 : Int) (j144 : Nat → Value) (W142 : World) (a_ : Act), FM.le f f140 → some ((data145, i149)) = some o82 → St t W142 f140 ([(b1, .cells #[.int .i64 v3.W, .int .i64 v3.H, .slice A4 v3.At.length c5] 34 (0, 0))] :: s146 :: H) → Own (tInt .i64) 3 f140 A7 c8 s146 data145 → data145.length = data11.length → a_ = ⟨#[.slice A7 data145.length c8, iV a13, iV m14, iV b15, .func (.func 99) #[] #[.pointer (some ⟨b1, 0, none⟩)], uV, uV, uV, uV, uV, iV i149, (j144 0), iV m14, iV a13, iV (w64 (m14 - a13)), iV b15, iV m14, iV (w64 (b15 - m14)), (j144 1), (j144 2), (j144 3), (j144 4), (j144 5), (j144 6), (j144 7), (j144 8), (j144 9), (j144 10), (j144 11), (j144 12), (j144 13), (j144 14), (j144 15), (j144 16), (j144 17), (j144 18), (j144 19), (j144 20), (j144 21), (j144 22), (j144 23), (j144 24), (j144 25), (j144 26), (j144 27), (j144 28), (j144 29), (j144 30), (j144 31), (j144 32), uV, uV, uV, uV, uV, uV, uV, uV], []⟩ → K20 a_ W142 := by
    intro f140 s146 data145 i149 j144 W142 a_ L141 hj152 HS143 HO147 HL148 hfr_; subst hfr_
    injection hj152 with hj152; subst hj152; try dsimp only at h
    refine hK21 _ _ ?_
    refine wp_region_lit ?_
    have HS153 := HS143.u1
    have HS154 := HS153.u1
    have hq_ := bind_some h; clear h; obtain ⟨vt155, hc156, h⟩ := hq_
    refine seqL7 (by kernel_rfl) ?_
    refine seqK rfl (does_call (f := 147) (args := #[.slice A7 data145.length c8, .int .i64 (w64 (m14 - i149)), .int .i64 m14, .int .i64 i149, .func (.func 99) #[] #[.pointer (some ⟨b1, 0, none⟩)]]) (by kernel_rfl) (slices_swapRangeCmpFunc_int__level_known_1.calls k b1 A4 c5 A7 c8 s146 v3 data145 (w64 (m14 - i149)) m14 i149 HS154 (HR6.mono L141) HO147 vt155 hc156) ?_)
    rintro _ W159 ⟨f157, s161, rfl, L158, HS160, HO162, HL163⟩
    refine ⟨_, rfl, ?_⟩
    refine seqRwS 0 (A := A7) (m := data145.length) (n := vt155.length) (c := c8) (by kernel_rfl) (HL163).symm ?_
    refine seqRwS 50 (A := A7) (m := data145.length) (n := vt155.length) (c := c8) (by kernel_rfl) (HL163).symm ?_
    refine wpList_nil ?_
    refine hnor _ _ ?_
    refine ends_still (v := Value.tuple #[]) (by kernel_rfl) (by kernel_rfl) ?_
    injection h with h
    subst h
    exact ⟨f157, s161, rfl, (L141.trans L158), HS160, HO162, (HL163.trans HL148)⟩
  clear h; have h := hv150; clear hv150
  refine loopK (fun n_ a_ w_ => ∃ (f86 : FM) (s92 : Seg) (data91 : List Int) (i95 : Int) (j96 : Int) (j90 : Nat → Value), FM.le f f86 ∧ St t w_ f86 ([(b1, .cells #[.int .i64 v3.W, .int .i64 v3.H, .slice A4 v3.At.length c5] 34 (0, 0))] :: s92 :: H) ∧ Own (tInt .i64) 3 f86 A7 c8 s92 data91 ∧ data91.length = data11.length ∧ slices_rotateCmpFunc_int__level_known_1.l0 k v3 m14 n_ data91 i95 j96 = some o82 ∧ a_ = ⟨#[.slice A7 data91.length c8, iV a13, iV m14, iV b15, .func (.func 99) #[] #[.pointer (some ⟨b1, 0, none⟩)], uV, uV, uV, uV, uV, iV i95, iV j96, iV m14, iV a13, iV (w64 (m14 - a13)), iV b15, iV m14, iV (w64 (b15 - m14)), (j90 0), (j90 1), (j90 2), (j90 3), (j90 4), (j90 5), (j90 6), (j90 7), (j90 8), (j90 9), (j90 10), (j90 11), (j90 12), (j90 13), (j90 14), (j90 15), (j90 16), (j90 17), (j90 18), (j90 19), (j90 20), (j90 21), (j90 22), (j90 23), (j90 24), (j90 25), (j90 26), (j90 27), (j90 28), (j90 29), (j90 30), (j90 31), uV, uV, uV, uV, uV, uV, uV, uV], []⟩) k ⟨f, s9, data11, (w64 (m14 - a13)), (w64 (b15 - m14)), (fun i_ => [undef, undef, undef, undef, undef, undef, undef, undef, undef, undef, undef, undef, undef, undef, undef, undef, undef, undef, undef, undef, undef, undef, undef, undef, undef, undef, undef, undef, undef, undef, undef, undef].getD i_ undef), (FM.le.refl _), HS, HO10, rfl, h, (by kernel_rfl)⟩ ?_
  clear h
  rintro n85 _ W88 ⟨f86, s92, data91, i95, j96, j90, L87, HS89, HO93, HL94, h, rfl⟩ K83 hK84
  obtain _ | n85 := n85
  · exact nomatch h
  simp only [slices_rotateCmpFunc_int__level_known_1.l0] at h
  refine wp_seq_k (fun K97 hK98 => ?_)
  refine wp_seq_k (fun K99 hK100 => ?_)
  refine wp_region_lit ?_
  refine seqS3 (a' := ⟨#[.slice A7 data91.length c8, iV a13, iV m14, iV b15, .func (.func 99) #[] #[.pointer (some ⟨b1, 0, none⟩)], uV, uV, uV, uV, uV, iV i95, iV j96, iV m14, iV a13, iV (w64 (m14 - a13)), iV b15, iV m14, iV (w64 (b15 - m14)), iV i95, iV j96, .bool (i95 != j96), (j90 3), (j90 4), (j90 5), (j90 6), (j90 7), (j90 8), (j90 9), (j90 10), (j90 11), (j90 12), (j90 13), (j90 14), (j90 15), (j90 16), (j90 17), (j90 18), (j90 19), (j90 20), (j90 21), (j90 22), (j90 23), (j90 24), (j90 25), (j90 26), (j90 27), (j90 28), (j90 29), (j90 30), (j90 31), uV, uV, uV, uV, uV, uV, uV, uV], []⟩) (by kernel_rfl) ?_
  refine wpList_nil ?_
  refine hK100 _ _ ?_
  have hq_ := ite_some h; clear h; rcases hq_ with ⟨c102, h⟩ | ⟨c102, h⟩
  · have c102 : i95 ≠ j96 := c102
    refine wpRwI 20 (x := (i95 != j96)) (v := true) (by kernel_rfl) (bne_iff_ne.mpr c102) ?_
    refine condT (by kernel_rfl) ?_
    refine wp_skip ?_
    refine hK98 _ _ ?_
    refine blockK (fun B103 hx104 hn105 hr106 ho107 hp108 => ?_)
    refine wp_seq_k (fun K110 hK111 => ?_)
    refine wp_region_lit ?_
    refine seqS3 (a' := ⟨#[.slice A7 data91.length c8, iV a13, iV m14, iV b15, .func (.func 99) #[] #[.pointer (some ⟨b1, 0, none⟩)], uV, uV, uV, uV, uV, iV i95, iV j96, iV m14, iV a13, iV (w64 (m14 - a13)), iV b15, iV m14, iV (w64 (b15 - m14)), iV i95, iV j96, .bool true, iV i95, iV j96, .bool (decide (i95 > j96)), (j90 6), (j90 7), (j90 8), (j90 9), (j90 10), (j90 11), (j90 12), (j90 13), (j90 14), (j90 15), (j90 16), (j90 17), (j90 18), (j90 19), (j90 20), (j90 21), (j90 22), (j90 23), (j90 24), (j90 25), (j90 26), (j90 27), (j90 28), (j90 29), (j90 30), (j90 31), uV, uV, uV, uV, uV, uV, uV, uV], []⟩) (by kernel_rfl) ?_
    refine wpList_nil ?_
    refine hK111 _ _ ?_
    have hq_ := ite_some h; clear h; rcases hq_ with ⟨c113, h⟩ | ⟨c113, h⟩
    · have c113 : i95 > j96 := c113
      refine wpRwI 23 (x := (decide (i95 > j96))) (v := true) (by kernel_rfl) (decide_eq_true c113) ?_
      refine condT (by kernel_rfl) ?_
      refine wp_seq_k (fun K114 hK115 => ?_)
      refine wp_region_lit ?_
      have HS116 := HS89.u1
      have HS117 := HS116.u1
      have hq_ := bind_some h; clear h; obtain ⟨vt118, hc119, h⟩ := hq_
      refine seqL7 (by kernel_rfl) ?_
      refine seqK rfl (does_call (f := 147) (args := #[.slice A7 data91.length c8, .int .i64 (w64 (m14 - i95)), .int .i64 m14, .int .i64 j96, .func (.func 99) #[] #[.pointer (some ⟨b1, 0, none⟩)]]) (by kernel_rfl) (slices_swapRangeCmpFunc_int__level_known_1.calls k b1 A4 c5 A7 c8 s92 v3 data91 (w64 (m14 - i95)) m14 j96 HS117 (HR6.mono L87) HO93 vt118 hc119) ?_)
      rintro _ W122 ⟨f120, s124, rfl, L121, HS123, HO125, HL126⟩
      refine ⟨_, rfl, ?_⟩
      refine seqRwS 0 (A := A7) (m := data91.length) (n := vt118.length) (c := c8) (by kernel_rfl) (HL126).symm ?_
      refine seqRwS 24 (A := A7) (m := data91.length) (n := vt118.length) (c := c8) (by kernel_rfl) (HL126).symm ?_
      refine wpList_nil ?_
      refine hK115 _ _ ?_
      refine wp_region_lit ?_
      refine seqS4 (a' := ⟨#[.slice A7 vt118.length c8, iV a13, iV m14, iV b15, .func (.func 99) #[] #[.pointer (some ⟨b1, 0, none⟩)], uV, uV, uV, uV, uV, iV (w64 (i95 - j96)), iV j96, iV m14, iV a13, iV (w64 (m14 - a13)), iV b15, iV m14, iV (w64 (b15 - m14)), iV i95, iV j96, .bool true, iV i95, iV j96, .bool true, .slice A7 vt118.length c8, iV m14, iV i95, iV (w64 (m14 - i95)), iV m14, iV j96, .func (.func 99) #[] #[.pointer (some ⟨b1, 0, none⟩)], .tuple #[], iV i95, iV j96, iV (w64 (i95 - j96)), (j90 17), (j90 18), (j90 19), (j90 20), (j90 21), (j90 22), (j90 23), (j90 24), (j90 25), (j90 26), (j90 27), (j90 28), (j90 29), (j90 30), (j90 31), uV, uV, uV, uV, uV, uV, uV, uV], []⟩) (by kernel_rfl) ?_
      refine wpList_nil ?_
      refine hn105 _ _ ?_
      refine hK84 n85 _ _ (Nat.lt_succ_self _) ?_
      exact ⟨f120, s124, vt118, (w64 (i95 - j96)), j96, (fun i_ => [Value.int .i64 i95, Value.int .i64 j96, Value.bool true, Value.int .i64 i95, Value.int .i64 j96, Value.bool true, Value.slice A7 vt118.length c8, Value.int .i64 m14, Value.int .i64 i95, Value.int .i64 (w64 (m14 - i95)), Value.int .i64 m14, Value.int .i64 j96, Value.func (.func 99) #[] #[.pointer (some ⟨b1, 0, none⟩)], Value.tuple #[], Value.int .i64 i95, Value.int .i64 j96, Value.int .i64 (w64 (i95 - j96)), (j90 17), (j90 18), (j90 19), (j90 20), (j90 21), (j90 22), (j90 23), (j90 24), (j90 25), (j90 26), (j90 27), (j90 28), (j90 29), (j90 30), (j90 31)].getD i_ undef), (L87.trans L121), HS123, HO125, (HL126.trans HL94), h, (by kernel_rfl)⟩
    · have c113 : ¬ (i95 > j96) := c113
      refine wpRwI 23 (x := (decide (i95 > j96))) (v := false) (by kernel_rfl) (decide_eq_false c113) ?_
      refine condF (by kernel_rfl) ?_
      refine wp_seq_k (fun K127 hK128 => ?_)
      refine wp_region_lit ?_
      have HS129 := HS89.u1
      have HS130 := HS129.u1
      have hq_ := bind_some h; clear h; obtain ⟨vt131, hc132, h⟩ := hq_
      refine seqL11 (by kernel_rfl) ?_
      refine seqK rfl (does_call (f := 147) (args := #[.slice A7 data91.length c8, .int .i64 (w64 (m14 - i95)), .int .i64 (w64 ((w64 (m14 + j96)) - i95)), .int .i64 i95, .func (.func 99) #[] #[.pointer (some ⟨b1, 0, none⟩)]]) (by kernel_rfl) (slices_swapRangeCmpFunc_int__level_known_1.calls k b1 A4 c5 A7 c8 s92 v3 data91 (w64 (m14 - i95)) (w64 ((w64 (m14 + j96)) - i95)) i95 HS130 (HR6.mono L87) HO93 vt131 hc132) ?_)
      rintro _ W135 ⟨f133, s137, rfl, L134, HS136, HO138, HL139⟩
      refine ⟨_, rfl, ?_⟩
      refine seqRwS 0 (A := A7) (m := data91.length) (n := vt131.length) (c := c8) (by kernel_rfl) (HL139).symm ?_
      refine seqRwS 35 (A := A7) (m := data91.length) (n := vt131.length) (c := c8) (by kernel_rfl) (HL139).symm ?_
      refine wpList_nil ?_
      refine hK128 _ _ ?_
      refine wp_region_lit ?_
      refine seqS4 (a' := ⟨#[.slice A7 vt131.length c8, iV a13, iV m14, iV b15, .func (.func 99) #[] #[.pointer (some ⟨b1, 0, none⟩)], uV, uV, uV, uV, uV, iV i95, iV (w64 (j96 - i95)), iV m14, iV a13, iV (w64 (m14 - a13)), iV b15, iV m14, iV (w64 (b15 - m14)), iV i95, iV j96, .bool true, iV i95, iV j96, .bool false, (j90 6), (j90 7), (j90 8), (j90 9), (j90 10), (j90 11), (j90 12), (j90 13), (j90 14), (j90 15), (j90 16), .slice A7 vt131.length c8, iV m14, iV i95, iV (w64 (m14 - i95)), iV m14, iV j96, iV (w64 (m14 + j96)), iV i95, iV (w64 ((w64 (m14 + j96)) - i95)), iV i95, .func (.func 99) #[] #[.pointer (some ⟨b1, 0, none⟩)], .tuple #[], iV j96, iV i95, iV (w64 (j96 - i95)), uV, uV, uV, uV, uV, uV, uV, uV], []⟩) (by kernel_rfl) ?_
      refine wpList_nil ?_
      refine hn105 _ _ ?_
      refine hK84 n85 _ _ (Nat.lt_succ_self _) ?_
      exact ⟨f133, s137, vt131, i95, (w64 (j96 - i95)), (fun i_ => [Value.int .i64 i95, Value.int .i64 j96, Value.bool true, Value.int .i64 i95, Value.int .i64 j96, Value.bool false, (j90 6), (j90 7), (j90 8), (j90 9), (j90 10), (j90 11), (j90 12), (j90 13), (j90 14), (j90 15), (j90 16), Value.slice A7 vt131.length c8, Value.int .i64 m14, Value.int .i64 i95, Value.int .i64 (w64 (m14 - i95)), Value.int .i64 m14, Value.int .i64 j96, Value.int .i64 (w64 (m14 + j96)), Value.int .i64 i95, Value.int .i64 (w64 ((w64 (m14 + j96)) - i95)), Value.int .i64 i95, Value.func (.func 99) #[] #[.pointer (some ⟨b1, 0, none⟩)], Value.tuple #[], Value.int .i64 j96, Value.int .i64 i95, Value.int .i64 (w64 (j96 - i95))].getD i_ undef), (L87.trans L134), HS136, HO138, (HL139.trans HL94), h, (by kernel_rfl)⟩
  · have c102 : ¬ (i95 ≠ j96) := c102
    refine wpRwI 20 (x := (i95 != j96)) (v := false) (by kernel_rfl) (bne_eq_false_iff_eq.mpr (Decidable.of_not_not c102)) ?_
    refine condF (by kernel_rfl) ?_
    refine wp_exit ?_
    refine hx23 _ _ ?_
    exact J151 f86 s92 data91 i95 (fun i_ => [Value.int .i64 j96, Value.int .i64 i95, Value.int .i64 j96, Value.bool false, (j90 3), (j90 4), (j90 5), (j90 6), (j90 7), (j90 8), (j90 9), (j90 10), (j90 11), (j90 12), (j90 13), (j90 14), (j90 15), (j90 16), (j90 17), (j90 18), (j90 19), (j90 20), (j90 21), (j90 22), (j90 23), (j90 24), (j90 25), (j90 26), (j90 27), (j90 28), (j90 29), (j90 30), (j90 31)].getD i_ undef) W88 _ L87 h HS89 HO93 HL94 (by kernel_rfl)

end Go.Sp.T9
