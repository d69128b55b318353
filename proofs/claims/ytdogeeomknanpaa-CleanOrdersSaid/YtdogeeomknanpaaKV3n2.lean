import Derived.Test.YtdogeeomknanpaaProg
import Derived.Test.YtdogeeomknanpaaSpCopy
import Derived.Test.YtdogeeomknanpaaFV3
import Derived.Test.YtdogeeomknanpaaKV3n0
import Derived.Test.YtdogeeomknanpaaKV3n1
namespace Go.Sp.V3
open Go Go.Sp Go.Proofs
set_option linter.unusedVariables false
attribute [local irreducible] wpList AnyL Code.wp Calls Does
set_option maxRecDepth 100000 in
set_option maxHeartbeats 4000000 in
theorem bound_Votes_Quanta.calls (k : Nat) (A2 : Option Addr) (c3 : Nat) (l1 : List S_Bound) (v5 : Int) {t w : World} {f : FM} {H : List Seg} (HS : St t w f (H)) (HR4 : SlR ty_Bound f A2 c3 l1) (r1 : Int) (h : bound_Votes_Quanta k l1 v5 = some r1) :
    Calls Try.prog 77 #[.slice A2 l1.length c3, .int .i64 v5] w (fun e w' => ∃ (g : FM), e = .returned (Value.int .i64 r1) ∧ FM.le f g ∧ St t w' g (H)) := by
  unfold bound_Votes_Quanta at h
  refine enter Try.func77 rfl (tm := #[.slice A2 l1.length c3, .int .i64 v5, undef, undef, undef, undef, undef, undef, undef, undef, undef, undef, undef, undef, undef, undef, undef, undef, undef, undef, undef, undef, undef, undef, undef, undef, undef]) (by kernel_rfl) ?_
  intro B hret hnor hnp
  refine wp_seq_k (fun K6 hK7 => ?_)
  refine wp_region_lit ?_
  refine seqS1 (a' := ⟨#[.slice A2 l1.length c3, .int .i64 v5, undef, undef, .int .i64 0, undef, undef, undef, undef, undef, undef, undef, undef, undef, undef, undef, undef, undef, undef, undef, undef, undef, undef, undef, undef, undef, undef], []⟩) (by kernel_rfl) ?_
  refine wpList_nil ?_
  refine hK7 _ _ ?_
  refine wp_seq_k (fun K8 hK9 => ?_)
  refine wp_region_lit ?_
  refine seqS1 (a' := ⟨#[.slice A2 l1.length c3, .int .i64 v5, undef, undef, .int .i64 0, .int .i64 0, undef, undef, undef, undef, undef, undef, undef, undef, undef, undef, undef, undef, undef, undef, undef, undef, undef, undef, undef, undef, undef], []⟩) (by kernel_rfl) ?_
  refine wpList_nil ?_
  refine hK9 _ _ ?_
  refine wp_seq_k (fun K10 hK11 => ?_)
  refine wp_seq_k (fun K12 hK13 => ?_)
  refine wp_region_lit ?_
  refine seqS3 (a' := ⟨#[.slice A2 l1.length c3, .int .i64 v5, undef, undef, .int .i64 0, .int .i64 0, undef, undef, .slice A2 l1.length c3, .int .i64 (l1.length : Int), .int .i64 0, undef, undef, undef, undef, undef, undef, undef, undef, undef, undef, undef, undef, undef, undef, undef, undef], []⟩) (by kernel_rfl) ?_
  refine wpList_nil ?_
  refine hK13 _ _ ?_
  refine blockK (fun B14 hx15 hn16 hr17 ho18 hp19 => ?_)
  have hq_ := bind_some h; clear h; obtain ⟨o20, hv84, h⟩ := hq_
  have J85 : ∀ (f78 : FM) (n83 : Int) (j82 : Nat → Value) (W80 : World) (a_ : Act), FM.le f f78 → some (n83) = some o20 → St t W80 f78 (H) → a_ = ⟨#[.slice A2 l1.length c3, .int .i64 v5, undef, undef, .int .i64 0, .int .i64 n83, undef, (j82 0), .slice A2 l1.length c3, .int .i64 (l1.length : Int), (j82 1), (j82 2), (j82 3), (j82 4), (j82 5), (j82 6), (j82 7), (j82 8), (j82 9), (j82 10), (j82 11), (j82 12), (j82 13), (j82 14), (j82 15), (j82 16), undef], []⟩ → K10 a_ W80 := by
    intro f78 n83 j82 W80 a_ L79 hj86 HS81  hfr_; subst hfr_
    injection hj86 with hj86; subst hj86; try dsimp only at h
    refine hK11 _ _ ?_
    refine wp_seq_k (fun K90 hK91 => ?_)
    refine wp_region_lit ?_
    refine seqS2 (a' := ⟨#[.slice A2 l1.length c3, .int .i64 v5, undef, undef, .int .i64 n83, .int .i64 n83, undef, (j82 0), .slice A2 l1.length c3, .int .i64 (l1.length : Int), (j82 1), (j82 2), (j82 3), (j82 4), (j82 5), (j82 6), (j82 7), (j82 8), (j82 9), (j82 10), (j82 11), (j82 12), (j82 13), (j82 14), (j82 15), (j82 16), .int .i64 n83], []⟩) (by kernel_rfl) ?_
    refine wpList_nil ?_
    refine hK91 _ _ ?_
    refine wp_ret ?_
    refine hret _ _ ?_
    refine ends_still (v := Value.int .i64 n83) (by kernel_rfl) (by kernel_rfl) ?_
    injection h with h
    subst h
    exact ⟨f78, rfl, L79, HS81⟩
  clear h; have h := hv84; clear hv84
  refine loopK (fun n_ a_ w_ => ∃ (f24 : FM) (n29 : Int) (x30 : Int) (j28 : Nat → Value), FM.le f f24 ∧ St t w_ f24 (H) ∧ bound_Votes_Quanta.l0 k l1 v5 n_ n29 x30 = some o20 ∧ a_ = ⟨#[.slice A2 l1.length c3, .int .i64 v5, undef, undef, .int .i64 0, .int .i64 n29, undef, (j28 0), .slice A2 l1.length c3, .int .i64 (l1.length : Int), .int .i64 x30, (j28 1), (j28 2), (j28 3), (j28 4), (j28 5), (j28 6), (j28 7), (j28 8), (j28 9), (j28 10), (j28 11), (j28 12), (j28 13), (j28 14), (j28 15), undef], []⟩) k ⟨f, 0, 0, (fun i_ => [undef, undef, undef, undef, undef, undef, undef, undef, undef, undef, undef, undef, undef, undef, undef, undef].getD i_ undef), (FM.le.refl _), HS, h, (by kernel_rfl)⟩ ?_
  clear h
  rintro n23 _ W26 ⟨f24, n29, x30, j28, L25, HS27, h, rfl⟩ K21 hK22
  obtain _ | n23 := n23
  · exact nomatch h
  simp only [bound_Votes_Quanta.l0] at h
  refine wp_seq_k (fun K31 hK32 => ?_)
  refine wp_region_lit ?_
  refine seqS1 (a' := ⟨#[.slice A2 l1.length c3, .int .i64 v5, undef, undef, .int .i64 0, .int .i64 n29, undef, (j28 0), .slice A2 l1.length c3, .int .i64 (l1.length : Int), .int .i64 x30, .bool (decide (x30 < (l1.length : Int))), (j28 2), (j28 3), (j28 4), (j28 5), (j28 6), (j28 7), (j28 8), (j28 9), (j28 10), (j28 11), (j28 12), (j28 13), (j28 14), (j28 15), undef], []⟩) (by kernel_rfl) ?_
  refine wpList_nil ?_
  refine hK32 _ _ ?_
  refine wp_seq_k (fun K33 hK34 => ?_)
  have hq_ := ite_some h; clear h; rcases hq_ with ⟨c36, h⟩ | ⟨c36, h⟩
  · have c36 : x30 < (l1.length : Int) := c36
    refine wpRwI 11 (x := (decide (x30 < (l1.length : Int)))) (v := true) (by kernel_rfl) (decide_eq_true c36) ?_
    refine condT (by kernel_rfl) ?_
    refine wp_skip ?_
    refine hK34 _ _ ?_
    refine wp_seq_k (fun K37 hK38 => ?_)
    refine blockK (fun B39 hx40 hn41 hr42 ho43 hp44 => ?_)
    refine wp_seq_k (fun K46 hK47 => ?_)
    refine wp_region_lit ?_
    have hq_ := guard_some h; clear h; obtain ⟨c48, h⟩ := hq_
    have c48 : 0 ≤ x30 := c48
    obtain ⟨b52, of53, cs49, hA54, hr50, hc51⟩ := (HR4.mono L25).at (i := x30) c48 c36
    obtain rfl := hr50
    refine seqK rfl (does_run (run_indexE hA54 (sz := 3) rfl Try.underlying32 (by kernel_rfl) (by kernel_rfl : _ = Value.slice A2 l1.length c3) (by kernel_rfl : _ = Value.int .i64 x30) c48 c36 W26) ?_)
    refine seqK rfl (does_run (run_loadN (n := 3) rfl Try.underlying44 rfl (by kernel_rfl) (by kernel_rfl : _ = Value.pointer (some ⟨b52, of53 + (x30 : Int).toNat * 3, none⟩)) (cs := [.int .i64 ((rd l1 x30).Lo), .int .i64 ((rd l1 x30).Hi), .bool ((rd l1 x30).Unknown)]) rfl (fun j_ hj_ => ((hc51 (FM.le.refl _) HS27) j_ hj_))) ?_)
    refine seqK rfl (does_alloc (z := Value.agg #[.int .i64 0, .int .i64 0, .bool false]) (cs := #[.int .i64 0, .int .i64 0, .bool false]) rfl (by kernel_rfl) rfl HS27 ?_)
    intro b55 W56 HS57
    refine seqK rfl (does_store (n := 3) (vs := [.int .i64 ((rd l1 x30).Lo), .int .i64 ((rd l1 x30).Hi), .bool ((rd l1 x30).Unknown)]) (cs' := #[.int .i64 ((rd l1 x30).Lo), .int .i64 ((rd l1 x30).Hi), .bool ((rd l1 x30).Unknown)]) rfl (by kernel_rfl) (by kernel_rfl : _ = Value.pointer (some ⟨b55, 0, none⟩)) (by kernel_rfl : _ = Value.agg #[.int .i64 ((rd l1 x30).Lo), .int .i64 ((rd l1 x30).Hi), .bool ((rd l1 x30).Unknown)]) rfl rfl (by intro u_ hu_; simp only [List.mem_cons, List.not_mem_nil, or_false] at hu_; rcases hu_ with rfl | rfl | rfl <;> rfl) HS57 (Nat.le_of_ble_eq_true rfl) (by kernel_rfl) ?_)
    intro W59 HS60
    refine wpList_nil ?_
    refine hK47 _ _ ?_
    refine wp_seq_k (fun K61 hK62 => ?_)
    refine wp_region_lit ?_
    refine seqK rfl (does_run (run_loadN (n := 3) rfl Try.underlying44 rfl (by kernel_rfl) (by kernel_rfl : _ = Value.pointer (some ⟨b55, 0, none⟩)) (cs := [.int .i64 ((rd l1 x30).Lo), .int .i64 ((rd l1 x30).Hi), .bool ((rd l1 x30).Unknown)]) rfl (HS60.cells 0 3 _ rfl)) ?_)
    refine seqK rfl (does_run (run_loadN (n := 3) rfl Try.underlying44 rfl (by kernel_rfl) (by kernel_rfl : _ = Value.pointer (some ⟨b55, 0, none⟩)) (cs := [.int .i64 ((rd l1 x30).Lo), .int .i64 ((rd l1 x30).Hi), .bool ((rd l1 x30).Unknown)]) rfl (HS60.cells 0 3 _ rfl)) ?_)
    have hq_ := bind_some h; clear h; obtain ⟨vt63, hc64, h⟩ := hq_
    refine seqK rfl (does_call (f := 42) (args := #[.agg #[.int .i64 ((rd l1 x30).Lo), .int .i64 ((rd l1 x30).Hi), .bool ((rd l1 x30).Unknown)], .agg #[.int .i64 ((rd l1 x30).Lo), .int .i64 ((rd l1 x30).Hi), .bool ((rd l1 x30).Unknown)]]) (by kernel_rfl) (bound_vague_Quanta.calls k (rd l1 x30) (rd l1 x30) HS60 vt63 hc64) ?_)
    rintro _ W67 ⟨f65, rfl, L66, HS68⟩
    refine ⟨_, rfl, ?_⟩
    refine seqS2 (a' := ⟨#[.slice A2 l1.length c3, .int .i64 v5, undef, undef, .int .i64 0, .int .i64 n29, undef, .pointer (some ⟨b55, 0, none⟩), .slice A2 l1.length c3, .int .i64 (l1.length : Int), .int .i64 x30, .bool true, .pointer (some ⟨b52, of53 + (x30 : Int).toNat * 3, none⟩), .agg #[.int .i64 ((rd l1 x30).Lo), .int .i64 ((rd l1 x30).Hi), .bool ((rd l1 x30).Unknown)], .agg #[.int .i64 ((rd l1 x30).Lo), .int .i64 ((rd l1 x30).Hi), .bool ((rd l1 x30).Unknown)], .agg #[.int .i64 ((rd l1 x30).Lo), .int .i64 ((rd l1 x30).Hi), .bool ((rd l1 x30).Unknown)], .bool vt63, .bool (!vt63), .bool (!vt63), (j28 9), (j28 10), (j28 11), (j28 12), (j28 13), (j28 14), (j28 15), undef], []⟩) (by kernel_rfl) ?_
    have hq_ := ite_some h; clear h; rcases hq_ with ⟨c69, h⟩ | ⟨c69, h⟩
    · have c69 : ¬ (vt63 = true) := c69
      refine seqRwI 17 (x := (!vt63)) (v := true) (by kernel_rfl) (congrArg (fun b_ => !b_) (show vt63 = false from (Bool.eq_false_iff.mpr c69)) : (!vt63) = true) ?_
      refine seqRwI 18 (x := (!vt63)) (v := true) (by kernel_rfl) (congrArg (fun b_ => !b_) (show vt63 = false from (Bool.eq_false_iff.mpr c69)) : (!vt63) = true) ?_
      refine seqG (by kernel_rfl) (does_run (run_loadN (n := 3) rfl Try.underlying44 rfl (by kernel_rfl) (by kernel_rfl : _ = Value.pointer (some ⟨b55, 0, none⟩)) (cs := [.int .i64 ((rd l1 x30).Lo), .int .i64 ((rd l1 x30).Hi), .bool ((rd l1 x30).Unknown)]) rfl (HS68.cells 0 3 _ rfl)) ?_)
      have hq_ := bind_some h; clear h; obtain ⟨vt70, hc71, h⟩ := hq_
      refine seqL1 (by kernel_rfl) ?_
      refine seqG (by kernel_rfl) (does_call (f := 20) (args := #[.agg #[.int .i64 ((rd l1 x30).Lo), .int .i64 ((rd l1 x30).Hi), .bool ((rd l1 x30).Unknown)], .int .i64 v5]) (by kernel_rfl) (bound_Has_Quanta.calls k (rd l1 x30) v5 HS68 vt70 hc71) ?_)
      rintro _ W74 ⟨f72, rfl, L73, HS75⟩
      refine ⟨_, rfl, ?_⟩
      refine seqS1 (a' := ⟨#[.slice A2 l1.length c3, .int .i64 v5, undef, undef, .int .i64 0, .int .i64 n29, undef, .pointer (some ⟨b55, 0, none⟩), .slice A2 l1.length c3, .int .i64 (l1.length : Int), .int .i64 x30, .bool true, .pointer (some ⟨b52, of53 + (x30 : Int).toNat * 3, none⟩), .agg #[.int .i64 ((rd l1 x30).Lo), .int .i64 ((rd l1 x30).Hi), .bool ((rd l1 x30).Unknown)], .agg #[.int .i64 ((rd l1 x30).Lo), .int .i64 ((rd l1 x30).Hi), .bool ((rd l1 x30).Unknown)], .agg #[.int .i64 ((rd l1 x30).Lo), .int .i64 ((rd l1 x30).Hi), .bool ((rd l1 x30).Unknown)], .bool vt63, .bool true, .bool true, .agg #[.int .i64 ((rd l1 x30).Lo), .int .i64 ((rd l1 x30).Hi), .bool ((rd l1 x30).Unknown)], .int .i64 v5, .bool vt70, .bool vt70, (j28 13), (j28 14), (j28 15), undef], []⟩) (by kernel_rfl) ?_
      refine wpList_nil ?_
      refine hK62 _ _ ?_
      have hq_ := ite_some h; clear h; rcases hq_ with ⟨c77, h⟩ | ⟨c77, h⟩
      · have c77 : vt70 = true := c77
        refine wpRwI 21 (x := vt70) (v := true) (by kernel_rfl) c77 ?_
        refine wpRwI 22 (x := vt70) (v := true) (by kernel_rfl) c77 ?_
        refine condT (by kernel_rfl) ?_
        refine wp_region_lit ?_
        refine seqS3 (a' := ⟨#[.slice A2 l1.length c3, .int .i64 v5, undef, undef, .int .i64 0, .int .i64 (w64 (n29 + 1)), undef, .pointer (some ⟨b55, 0, none⟩), .slice A2 l1.length c3, .int .i64 (l1.length : Int), .int .i64 x30, .bool true, .pointer (some ⟨b52, of53 + (x30 : Int).toNat * 3, none⟩), .agg #[.int .i64 ((rd l1 x30).Lo), .int .i64 ((rd l1 x30).Hi), .bool ((rd l1 x30).Unknown)], .agg #[.int .i64 ((rd l1 x30).Lo), .int .i64 ((rd l1 x30).Hi), .bool ((rd l1 x30).Unknown)], .agg #[.int .i64 ((rd l1 x30).Lo), .int .i64 ((rd l1 x30).Hi), .bool ((rd l1 x30).Unknown)], .bool vt63, .bool true, .bool true, .agg #[.int .i64 ((rd l1 x30).Lo), .int .i64 ((rd l1 x30).Hi), .bool ((rd l1 x30).Unknown)], .int .i64 v5, .bool true, .bool true, .int .i64 n29, .int .i64 (w64 (n29 + 1)), (j28 15), undef], []⟩) (by kernel_rfl) ?_
        refine wpList_nil ?_
        refine hn41 _ _ ?_
        refine hK38 _ _ ?_
        refine wp_region_lit ?_
        refine seqS2 (a' := ⟨#[.slice A2 l1.length c3, .int .i64 v5, undef, undef, .int .i64 0, .int .i64 (w64 (n29 + 1)), undef, .pointer (some ⟨b55, 0, none⟩), .slice A2 l1.length c3, .int .i64 (l1.length : Int), .int .i64 (w64 (x30 + 1)), .bool true, .pointer (some ⟨b52, of53 + (x30 : Int).toNat * 3, none⟩), .agg #[.int .i64 ((rd l1 x30).Lo), .int .i64 ((rd l1 x30).Hi), .bool ((rd l1 x30).Unknown)], .agg #[.int .i64 ((rd l1 x30).Lo), .int .i64 ((rd l1 x30).Hi), .bool ((rd l1 x30).Unknown)], .agg #[.int .i64 ((rd l1 x30).Lo), .int .i64 ((rd l1 x30).Hi), .bool ((rd l1 x30).Unknown)], .bool vt63, .bool true, .bool true, .agg #[.int .i64 ((rd l1 x30).Lo), .int .i64 ((rd l1 x30).Hi), .bool ((rd l1 x30).Unknown)], .int .i64 v5, .bool true, .bool true, .int .i64 n29, .int .i64 (w64 (n29 + 1)), .int .i64 (w64 (x30 + 1)), undef], []⟩) (by kernel_rfl) ?_
        refine wpList_nil ?_
        refine hK22 n23 _ _ (Nat.lt_succ_self _) ?_
        have HS87 := HS75.drop
        exact ⟨f72, (w64 (n29 + 1)), (w64 (x30 + 1)), (fun i_ => [Value.pointer (some ⟨b55, 0, none⟩), Value.bool true, Value.pointer (some ⟨b52, of53 + (x30 : Int).toNat * 3, none⟩), Value.agg #[.int .i64 ((rd l1 x30).Lo), .int .i64 ((rd l1 x30).Hi), .bool ((rd l1 x30).Unknown)], Value.agg #[.int .i64 ((rd l1 x30).Lo), .int .i64 ((rd l1 x30).Hi), .bool ((rd l1 x30).Unknown)], Value.agg #[.int .i64 ((rd l1 x30).Lo), .int .i64 ((rd l1 x30).Hi), .bool ((rd l1 x30).Unknown)], Value.bool vt63, Value.bool true, Value.bool true, Value.agg #[.int .i64 ((rd l1 x30).Lo), .int .i64 ((rd l1 x30).Hi), .bool ((rd l1 x30).Unknown)], Value.int .i64 v5, Value.bool true, Value.bool true, Value.int .i64 n29, Value.int .i64 (w64 (n29 + 1)), Value.int .i64 (w64 (x30 + 1))].getD i_ undef), (L25.trans (L66.trans L73)), HS87, h, (by kernel_rfl)⟩
      · have c77 : ¬ (vt70 = true) := c77
        refine wpRwI 21 (x := vt70) (v := false) (by kernel_rfl) (Bool.eq_false_iff.mpr c77) ?_
        refine wpRwI 22 (x := vt70) (v := false) (by kernel_rfl) (Bool.eq_false_iff.mpr c77) ?_
        refine condF (by kernel_rfl) ?_
        refine wp_skip ?_
        refine hn41 _ _ ?_
        refine hK38 _ _ ?_
        refine wp_region_lit ?_
        refine seqS2 (a' := ⟨#[.slice A2 l1.length c3, .int .i64 v5, undef, undef, .int .i64 0, .int .i64 n29, undef, .pointer (some ⟨b55, 0, none⟩), .slice A2 l1.length c3, .int .i64 (l1.length : Int), .int .i64 (w64 (x30 + 1)), .bool true, .pointer (some ⟨b52, of53 + (x30 : Int).toNat * 3, none⟩), .agg #[.int .i64 ((rd l1 x30).Lo), .int .i64 ((rd l1 x30).Hi), .bool ((rd l1 x30).Unknown)], .agg #[.int .i64 ((rd l1 x30).Lo), .int .i64 ((rd l1 x30).Hi), .bool ((rd l1 x30).Unknown)], .agg #[.int .i64 ((rd l1 x30).Lo), .int .i64 ((rd l1 x30).Hi), .bool ((rd l1 x30).Unknown)], .bool vt63, .bool true, .bool true, .agg #[.int .i64 ((rd l1 x30).Lo), .int .i64 ((rd l1 x30).Hi), .bool ((rd l1 x30).Unknown)], .int .i64 v5, .bool false, .bool false, (j28 13), (j28 14), .int .i64 (w64 (x30 + 1)), undef], []⟩) (by kernel_rfl) ?_
        refine wpList_nil ?_
        refine hK22 n23 _ _ (Nat.lt_succ_self _) ?_
        have HS88 := HS75.drop
        exact ⟨f72, n29, (w64 (x30 + 1)), (fun i_ => [Value.pointer (some ⟨b55, 0, none⟩), Value.bool true, Value.pointer (some ⟨b52, of53 + (x30 : Int).toNat * 3, none⟩), Value.agg #[.int .i64 ((rd l1 x30).Lo), .int .i64 ((rd l1 x30).Hi), .bool ((rd l1 x30).Unknown)], Value.agg #[.int .i64 ((rd l1 x30).Lo), .int .i64 ((rd l1 x30).Hi), .bool ((rd l1 x30).Unknown)], Value.agg #[.int .i64 ((rd l1 x30).Lo), .int .i64 ((rd l1 x30).Hi), .bool ((rd l1 x30).Unknown)], Value.bool vt63, Value.bool true, Value.bool true, Value.agg #[.int .i64 ((rd l1 x30).Lo), .int .i64 ((rd l1 x30).Hi), .bool ((rd l1 x30).Unknown)], Value.int .i64 v5, Value.bool false, Value.bool false, (j28 13), (j28 14), Value.int .i64 (w64 (x30 + 1))].getD i_ undef), (L25.trans (L66.trans L73)), HS88, h, (by kernel_rfl)⟩
    · have c69 : ¬ (¬ (vt63 = true)) := c69
      refine seqRwI 17 (x := (!vt63)) (v := false) (by kernel_rfl) (congrArg (fun b_ => !b_) (show vt63 = true from (Decidable.of_not_not c69)) : (!vt63) = false) ?_
      refine seqRwI 18 (x := (!vt63)) (v := false) (by kernel_rfl) (congrArg (fun b_ => !b_) (show vt63 = true from (Decidable.of_not_not c69)) : (!vt63) = false) ?_
      refine seqS4 (a' := ⟨#[.slice A2 l1.length c3, .int .i64 v5, undef, undef, .int .i64 0, .int .i64 n29, undef, .pointer (some ⟨b55, 0, none⟩), .slice A2 l1.length c3, .int .i64 (l1.length : Int), .int .i64 x30, .bool true, .pointer (some ⟨b52, of53 + (x30 : Int).toNat * 3, none⟩), .agg #[.int .i64 ((rd l1 x30).Lo), .int .i64 ((rd l1 x30).Hi), .bool ((rd l1 x30).Unknown)], .agg #[.int .i64 ((rd l1 x30).Lo), .int .i64 ((rd l1 x30).Hi), .bool ((rd l1 x30).Unknown)], .agg #[.int .i64 ((rd l1 x30).Lo), .int .i64 ((rd l1 x30).Hi), .bool ((rd l1 x30).Unknown)], .bool vt63, .bool false, .bool false, undef, undef, undef, .bool false, (j28 13), (j28 14), (j28 15), undef], []⟩) (by kernel_rfl) ?_
      refine wpList_nil ?_
      refine hK62 _ _ ?_
      refine condF (by kernel_rfl) ?_
      refine wp_skip ?_
      refine hn41 _ _ ?_
      refine hK38 _ _ ?_
      refine wp_region_lit ?_
      refine seqS2 (a' := ⟨#[.slice A2 l1.length c3, .int .i64 v5, undef, undef, .int .i64 0, .int .i64 n29, undef, .pointer (some ⟨b55, 0, none⟩), .slice A2 l1.length c3, .int .i64 (l1.length : Int), .int .i64 (w64 (x30 + 1)), .bool true, .pointer (some ⟨b52, of53 + (x30 : Int).toNat * 3, none⟩), .agg #[.int .i64 ((rd l1 x30).Lo), .int .i64 ((rd l1 x30).Hi), .bool ((rd l1 x30).Unknown)], .agg #[.int .i64 ((rd l1 x30).Lo), .int .i64 ((rd l1 x30).Hi), .bool ((rd l1 x30).Unknown)], .agg #[.int .i64 ((rd l1 x30).Lo), .int .i64 ((rd l1 x30).Hi), .bool ((rd l1 x30).Unknown)], .bool vt63, .bool false, .bool false, undef, undef, undef, .bool false, (j28 13), (j28 14), .int .i64 (w64 (x30 + 1)), undef], []⟩) (by kernel_rfl) ?_
      refine wpList_nil ?_
      refine hK22 n23 _ _ (Nat.lt_succ_self _) ?_
      have HS89 := HS68.drop
      exact ⟨f65, n29, (w64 (x30 + 1)), (fun i_ => [Value.pointer (some ⟨b55, 0, none⟩), Value.bool true, Value.pointer (some ⟨b52, of53 + (x30 : Int).toNat * 3, none⟩), Value.agg #[.int .i64 ((rd l1 x30).Lo), .int .i64 ((rd l1 x30).Hi), .bool ((rd l1 x30).Unknown)], Value.agg #[.int .i64 ((rd l1 x30).Lo), .int .i64 ((rd l1 x30).Hi), .bool ((rd l1 x30).Unknown)], Value.agg #[.int .i64 ((rd l1 x30).Lo), .int .i64 ((rd l1 x30).Hi), .bool ((rd l1 x30).Unknown)], Value.bool vt63, Value.bool false, Value.bool false, undef, undef, undef, Value.bool false, (j28 13), (j28 14), Value.int .i64 (w64 (x30 + 1))].getD i_ undef), (L25.trans L66), HS89, h, (by kernel_rfl)⟩
  · have c36 : ¬ (x30 < (l1.length : Int)) := c36
    refine wpRwI 11 (x := (decide (x30 < (l1.length : Int)))) (v := false) (by kernel_rfl) (decide_eq_false c36) ?_
    refine condF (by kernel_rfl) ?_
    refine wp_exit ?_
    refine hx15 _ _ ?_
    exact J85 f24 n29 (fun i_ => [(j28 0), Value.int .i64 x30, Value.bool false, (j28 2), (j28 3), (j28 4), (j28 5), (j28 6), (j28 7), (j28 8), (j28 9), (j28 10), (j28 11), (j28 12), (j28 13), (j28 14), (j28 15)].getD i_ undef) W26 _ L25 h HS27 (by kernel_rfl)

set_option maxRecDepth 100000 in
set_option maxHeartbeats 4000000 in
theorem bound_Fuse_Quanta_1.calls (k : Nat) (b1 : Nat) (A6 : Option Addr) (c7 : Nat) (b3 : Nat) (v5 : List S_Bound) (v9 : Int) (v10 : Int) {t w : World} {f : FM} {H : List Seg} (HS : St t w f ([(b1, .cells #[.slice A6 v5.length c7] 32 (0, 0))] :: [(b3, .cells #[.int .i64 v9] 3 (0, 0))] :: H)) (HR8 : SlR ty_Bound f A6 c7 v5) (r1 : Bool) (h : bound_Fuse_Quanta_1 k v5 v9 v10 = some r1) :
    Calls Try.prog 76 #[.int .i64 v10, .pointer (some ⟨b1, 0, none⟩), .pointer (some ⟨b3, 0, none⟩)] w (fun e w' => ∃ (g : FM), e = .returned (Value.bool r1) ∧ FM.le f g ∧ St t w' g ([(b1, .cells #[.slice A6 v5.length c7] 32 (0, 0))] :: [(b3, .cells #[.int .i64 v9] 3 (0, 0))] :: H)) := by
  unfold bound_Fuse_Quanta_1 at h
  refine enter Try.func76 rfl (tm := #[.int .i64 v10, .pointer (some ⟨b1, 0, none⟩), .pointer (some ⟨b3, 0, none⟩), undef, undef, undef, undef, undef, undef, undef]) (by kernel_rfl) ?_
  intro B hret hnor hnp
  refine wp_seq_k (fun K11 hK12 => ?_)
  refine wp_region_lit ?_
  refine seqS1 (a' := ⟨#[.int .i64 v10, .pointer (some ⟨b1, 0, none⟩), .pointer (some ⟨b3, 0, none⟩), undef, .bool false, undef, undef, undef, undef, undef], []⟩) (by kernel_rfl) ?_
  refine wpList_nil ?_
  refine hK12 _ _ ?_
  refine wp_seq_k (fun K13 hK14 => ?_)
  refine heldG (S := Sg t f ([(b1, .cells #[.slice A6 v5.length c7] 32 (0, 0))] :: [(b3, .cells #[.int .i64 v9] 3 (0, 0))] :: H) []) (n := 6) (by kernel_rfl) rfl HS ?_
  intro W15 HS16
  refine takeGQ 0 [] rfl (by kernel_rfl) (by kernel_rfl) (by kernel_rfl) (by kernel_rfl) (by kernel_rfl) (by kernel_rfl) hnp (Sg.g0 (Sx.of [] (FM.le.refl _) HS16)) (fun w_ hw_ => by obtain ⟨g_, hl_, hS_⟩ := hw_.st; exact run_load rfl Try.underlying32 rfl (by kernel_rfl : _ = Value.pointer (some ⟨b1, 0, none⟩)) (hS_.cell 0)) ?_
  refine takeG [1] (n := 5) (fuel := 4) (l' := #[true, true, false, false, false, false]) (a' := ⟨#[.int .i64 v10, .pointer (some ⟨b1, 0, none⟩), .pointer (some ⟨b3, 0, none⟩), undef, .bool false, .slice A6 v5.length c7, .int .i64 v10, undef, undef, undef], []⟩) rfl (by kernel_rfl) (by kernel_rfl) (by kernel_rfl) hnp (Sg.g0 (Sx.of [] (FM.le.refl _) HS16)) ?_
  refine takeGQ 3 [] rfl (by kernel_rfl) (by kernel_rfl) (by kernel_rfl) (by kernel_rfl) (by kernel_rfl) (by kernel_rfl) hnp (Sg.g0 (Sx.of [] (FM.le.refl _) HS16)) (fun w_ hw_ => by obtain ⟨g_, hl_, hS_⟩ := hw_.st; exact run_load rfl Try.underlying3 rfl (by kernel_rfl : _ = Value.pointer (some ⟨b3, 0, none⟩)) (hS_.u1.cell 0)) ?_
  have hq_ := bind_some h; clear h; obtain ⟨vt17, hc18, h⟩ := hq_
  refine takeGE 2 (by kernel_rfl) rfl (by kernel_rfl) (does_call (f := 77) (args := #[.slice A6 v5.length c7, .int .i64 v10]) (by kernel_rfl) (bound_Votes_Quanta.calls k A6 c7 v5 v10 HS16 HR8 vt17 hc18) ?_)
  rintro _ W21 ⟨f19, rfl, L20, HS22⟩
  refine ⟨_, rfl, ?_⟩
  refine ⟨(Sg.g0 (Sx.of [] L20 HS22)), ?_⟩
  refine takeG [4, 5] (n := 2) (fuel := 0) (l' := #[true, true, true, true, true, true]) (a' := ⟨#[.int .i64 v10, .pointer (some ⟨b1, 0, none⟩), .pointer (some ⟨b3, 0, none⟩), undef, .bool (decide (vt17 < v9)), .slice A6 v5.length c7, .int .i64 v10, .int .i64 vt17, .int .i64 v9, .bool (decide (vt17 < v9))], []⟩) rfl (by kernel_rfl) (by kernel_rfl) (by kernel_rfl) hnp (Sg.g0 (Sx.of [] L20 HS22)) ?_
  refine doneG (by kernel_rfl) ?_ _
  refine hK14 _ _ ?_
  refine wp_ret ?_
  refine hret _ _ ?_
  refine ends_still (v := Value.bool (decide (vt17 < v9))) (by kernel_rfl) (by kernel_rfl) ?_
  injection h with h
  subst h
  exact ⟨f19, rfl, L20, HS22⟩

set_option maxRecDepth 100000 in
set_option maxHeartbeats 4000000 in
theorem slices_IndexFunc_Quanta__bound_Fuse_Quanta_1.calls (k : Nat) (b1 : Nat) (A6 : Option Addr) (c7 : Nat) (b3 : Nat) (A11 : Option Addr) (c12 : Nat) (v5 : List S_Bound) (v9 : Int) (s10 : List Int) {t w : World} {f : FM} {H : List Seg} (HS : St t w f ([(b1, .cells #[.slice A6 v5.length c7] 32 (0, 0))] :: [(b3, .cells #[.int .i64 v9] 3 (0, 0))] :: H)) (HR8 : SlR ty_Bound f A6 c7 v5) (HR13 : SlR (tInt .i64) f A11 c12 s10) (r1 : Int) (h : slices_IndexFunc_Quanta__bound_Fuse_Quanta_1 k v5 v9 s10 = some r1) :
    Calls Try.prog 107 #[.slice A11 s10.length c12, .func (.func 76) #[] #[.pointer (some ⟨b1, 0, none⟩), .pointer (some ⟨b3, 0, none⟩)]] w (fun e w' => ∃ (g : FM), e = .returned (Value.int .i64 r1) ∧ FM.le f g ∧ St t w' g ([(b1, .cells #[.slice A6 v5.length c7] 32 (0, 0))] :: [(b3, .cells #[.int .i64 v9] 3 (0, 0))] :: H)) := by
  unfold slices_IndexFunc_Quanta__bound_Fuse_Quanta_1 at h
  refine enter Try.func107 rfl (tm := #[.slice A11 s10.length c12, .func (.func 76) #[] #[.pointer (some ⟨b1, 0, none⟩), .pointer (some ⟨b3, 0, none⟩)], undef, undef, undef, undef, undef, undef, undef, undef, undef, undef, undef, undef, undef, undef, undef, undef, undef]) (by kernel_rfl) ?_
  intro B hret hnor hnp
  refine wp_seq_k (fun K14 hK15 => ?_)
  refine wp_region_lit ?_
  refine seqS1 (a' := ⟨#[.slice A11 s10.length c12, .func (.func 76) #[] #[.pointer (some ⟨b1, 0, none⟩), .pointer (some ⟨b3, 0, none⟩)], undef, undef, .int .i64 0, undef, undef, undef, undef, undef, undef, undef, undef, undef, undef, undef, undef, undef, undef], []⟩) (by kernel_rfl) ?_
  refine wpList_nil ?_
  refine hK15 _ _ ?_
  refine wp_seq_k (fun K16 hK17 => ?_)
  refine wp_seq_k (fun K18 hK19 => ?_)
  refine wp_region_lit ?_
  refine seqS3 (a' := ⟨#[.slice A11 s10.length c12, .func (.func 76) #[] #[.pointer (some ⟨b1, 0, none⟩), .pointer (some ⟨b3, 0, none⟩)], undef, undef, .int .i64 0, undef, .slice A11 s10.length c12, .int .i64 (s10.length : Int), .int .i64 0, undef, undef, undef, undef, undef, undef, undef, undef, undef, undef], []⟩) (by kernel_rfl) ?_
  refine wpList_nil ?_
  refine hK19 _ _ ?_
  refine blockK (fun B20 hx21 hn22 hr23 ho24 hp25 => ?_)
  have hq_ := bind_some h; clear h; obtain ⟨o26, hv79, h⟩ := hq_
  have JR81 : ∀ z_, some (Sum.inl z_) = some o26 → some z_ = some r1 := by
    intro z_ e_; injection e_ with e_; subst e_; exact h
  have J80 : ∀ (f74 : FM) (j78 : Nat → Value) (W76 : World) (a_ : Act), FM.le f f74 → some (Sum.inr ()) = some o26 → St t W76 f74 ([(b1, .cells #[.slice A6 v5.length c7] 32 (0, 0))] :: [(b3, .cells #[.int .i64 v9] 3 (0, 0))] :: H) → a_ = ⟨#[.slice A11 s10.length c12, .func (.func 76) #[] #[.pointer (some ⟨b1, 0, none⟩), .pointer (some ⟨b3, 0, none⟩)], undef, undef, (j78 0), (j78 1), .slice A11 s10.length c12, .int .i64 (s10.length : Int), (j78 2), (j78 3), (j78 4), (j78 5), (j78 6), (j78 7), (j78 8), (j78 9), (j78 10), (j78 11), (j78 12)], []⟩ → K16 a_ W76 := by
    intro f74 j78 W76 a_ L75 hj82 HS77  hfr_; subst hfr_
    injection hj82 with hj82; subst hj82; try dsimp only at h
    simp only [Sum.elim_inr] at h
    refine hK17 _ _ ?_
    refine wp_seq_k (fun K83 hK84 => ?_)
    refine wp_region_lit ?_
    refine seqS1 (a' := ⟨#[.slice A11 s10.length c12, .func (.func 76) #[] #[.pointer (some ⟨b1, 0, none⟩), .pointer (some ⟨b3, 0, none⟩)], undef, undef, .int .i64 (-1), (j78 1), .slice A11 s10.length c12, .int .i64 (s10.length : Int), (j78 2), (j78 3), (j78 4), (j78 5), (j78 6), (j78 7), (j78 8), (j78 9), (j78 10), (j78 11), (j78 12)], []⟩) (by kernel_rfl) ?_
    refine wpList_nil ?_
    refine hK84 _ _ ?_
    refine wp_ret ?_
    refine hret _ _ ?_
    refine ends_still (v := Value.int .i64 (-1)) (by kernel_rfl) (by kernel_rfl) ?_
    injection h with h
    subst h
    exact ⟨f74, rfl, L75, HS77⟩
  clear h; have h := hv79; clear hv79
  refine loopK (fun n_ a_ w_ => ∃ (f30 : FM) (x35 : Int) (j34 : Nat → Value), FM.le f f30 ∧ St t w_ f30 ([(b1, .cells #[.slice A6 v5.length c7] 32 (0, 0))] :: [(b3, .cells #[.int .i64 v9] 3 (0, 0))] :: H) ∧ slices_IndexFunc_Quanta__bound_Fuse_Quanta_1.l0 k s10 v5 v9 n_ x35 = some o26 ∧ a_ = ⟨#[.slice A11 s10.length c12, .func (.func 76) #[] #[.pointer (some ⟨b1, 0, none⟩), .pointer (some ⟨b3, 0, none⟩)], undef, undef, (j34 0), (j34 1), .slice A11 s10.length c12, .int .i64 (s10.length : Int), .int .i64 x35, (j34 2), (j34 3), (j34 4), (j34 5), (j34 6), (j34 7), (j34 8), (j34 9), (j34 10), (j34 11)], []⟩) k ⟨f, 0, (fun i_ => [Value.int .i64 0, undef, undef, undef, undef, undef, undef, undef, undef, undef, undef, undef].getD i_ undef), (FM.le.refl _), HS, h, (by kernel_rfl)⟩ ?_
  clear h
  rintro n29 _ W32 ⟨f30, x35, j34, L31, HS33, h, rfl⟩ K27 hK28
  obtain _ | n29 := n29
  · exact nomatch h
  simp only [slices_IndexFunc_Quanta__bound_Fuse_Quanta_1.l0] at h
  refine wp_seq_k (fun K36 hK37 => ?_)
  refine wp_region_lit ?_
  refine seqS1 (a' := ⟨#[.slice A11 s10.length c12, .func (.func 76) #[] #[.pointer (some ⟨b1, 0, none⟩), .pointer (some ⟨b3, 0, none⟩)], undef, undef, (j34 0), (j34 1), .slice A11 s10.length c12, .int .i64 (s10.length : Int), .int .i64 x35, .bool (decide (x35 < (s10.length : Int))), (j34 3), (j34 4), (j34 5), (j34 6), (j34 7), (j34 8), (j34 9), (j34 10), (j34 11)], []⟩) (by kernel_rfl) ?_
  refine wpList_nil ?_
  refine hK37 _ _ ?_
  refine wp_seq_k (fun K38 hK39 => ?_)
  have hq_ := ite_some h; clear h; rcases hq_ with ⟨c41, h⟩ | ⟨c41, h⟩
  · have c41 : x35 < (s10.length : Int) := c41
    refine wpRwI 9 (x := (decide (x35 < (s10.length : Int)))) (v := true) (by kernel_rfl) (decide_eq_true c41) ?_
    refine condT (by kernel_rfl) ?_
    refine wp_skip ?_
    refine hK39 _ _ ?_
    refine wp_seq_k (fun K42 hK43 => ?_)
    refine blockK (fun B44 hx45 hn46 hr47 ho48 hp49 => ?_)
    refine wp_seq_k (fun K51 hK52 => ?_)
    refine wp_region_lit ?_
    refine seqS2 (a' := ⟨#[.slice A11 s10.length c12, .func (.func 76) #[] #[.pointer (some ⟨b1, 0, none⟩), .pointer (some ⟨b3, 0, none⟩)], undef, undef, (j34 0), .int .i64 x35, .slice A11 s10.length c12, .int .i64 (s10.length : Int), .int .i64 x35, .bool true, .int .i64 x35, (j34 4), (j34 5), (j34 6), (j34 7), (j34 8), (j34 9), (j34 10), (j34 11)], []⟩) (by kernel_rfl) ?_
    refine wpList_nil ?_
    refine hK52 _ _ ?_
    refine wp_seq_k (fun K53 hK54 => ?_)
    refine wp_region_lit ?_
    have hq_ := guard_some h; clear h; obtain ⟨c55, h⟩ := hq_
    have c55 : 0 ≤ x35 := c55
    obtain ⟨b59, of60, cs56, hA61, hr57, hc58⟩ := (HR13.mono L31).at (i := x35) c55 c41
    obtain rfl := hr57
    refine seqL3 (by kernel_rfl) ?_
    refine seqK rfl (does_run (run_indexE hA61 (sz := 1) rfl Try.underlying28 (by kernel_rfl) (by kernel_rfl : _ = Value.slice A11 s10.length c12) (by kernel_rfl : _ = Value.int .i64 x35) c55 c41 W32) ?_)
    refine seqK rfl (does_run (run_load rfl Try.underlying42 rfl (by kernel_rfl : _ = Value.pointer (some ⟨b59, of60 + (x35 : Int).toNat * 1, none⟩)) ((hc58 (FM.le.refl _) HS33) 0 (by decide))) ?_)
    have HS62 := HS33.u1
    have HS63 := HS62.u1
    have hq_ := bind_some h; clear h; obtain ⟨vt64, hc65, h⟩ := hq_
    refine seqK rfl (does_call (f := 76) (args := #[.int .i64 (rd s10 x35), .pointer (some ⟨b1, 0, none⟩), .pointer (some ⟨b3, 0, none⟩)]) (by kernel_rfl) (bound_Fuse_Quanta_1.calls k b1 A6 c7 b3 v5 v9 (rd s10 x35) HS63 (HR8.mono L31) vt64 hc65) ?_)
    rintro _ W68 ⟨f66, rfl, L67, HS69⟩
    refine ⟨_, rfl, ?_⟩
    refine wpList_nil ?_
    refine hK54 _ _ ?_
    have hq_ := ite_some h; clear h; rcases hq_ with ⟨c71, h⟩ | ⟨c71, h⟩
    · have c71 : vt64 = true := c71
      refine wpRwI 16 (x := vt64) (v := true) (by kernel_rfl) c71 ?_
      refine condT (by kernel_rfl) ?_
      refine wp_seq_k (fun K72 hK73 => ?_)
      refine wp_region_lit ?_
      refine seqS2 (a' := ⟨#[.slice A11 s10.length c12, .func (.func 76) #[] #[.pointer (some ⟨b1, 0, none⟩), .pointer (some ⟨b3, 0, none⟩)], undef, undef, .int .i64 x35, .int .i64 x35, .slice A11 s10.length c12, .int .i64 (s10.length : Int), .int .i64 x35, .bool true, .int .i64 x35, .func (.func 76) #[] #[.pointer (some ⟨b1, 0, none⟩), .pointer (some ⟨b3, 0, none⟩)], .slice A11 s10.length c12, .int .i64 x35, .pointer (some ⟨b59, of60 + (x35 : Int).toNat * 1, none⟩), .int .i64 (rd s10 x35), .bool true, .int .i64 x35, (j34 11)], []⟩) (by kernel_rfl) ?_
      refine wpList_nil ?_
      refine hK73 _ _ ?_
      refine wp_ret ?_
      refine hr47 _ _ ?_
      refine hr23 _ _ ?_
      refine hret _ _ ?_
      refine ends_still (v := Value.int .i64 x35) (by kernel_rfl) (by kernel_rfl) ?_
      replace h := JR81 _ h
      injection h with h
      subst h
      exact ⟨f66, rfl, (L31.trans L67), HS69⟩
    · have c71 : ¬ (vt64 = true) := c71
      refine wpRwI 16 (x := vt64) (v := false) (by kernel_rfl) (Bool.eq_false_iff.mpr c71) ?_
      refine condF (by kernel_rfl) ?_
      refine wp_skip ?_
      refine hn46 _ _ ?_
      refine hK43 _ _ ?_
      refine wp_region_lit ?_
      refine seqS2 (a' := ⟨#[.slice A11 s10.length c12, .func (.func 76) #[] #[.pointer (some ⟨b1, 0, none⟩), .pointer (some ⟨b3, 0, none⟩)], undef, undef, (j34 0), .int .i64 x35, .slice A11 s10.length c12, .int .i64 (s10.length : Int), .int .i64 (w64 (x35 + 1)), .bool true, .int .i64 x35, .func (.func 76) #[] #[.pointer (some ⟨b1, 0, none⟩), .pointer (some ⟨b3, 0, none⟩)], .slice A11 s10.length c12, .int .i64 x35, .pointer (some ⟨b59, of60 + (x35 : Int).toNat * 1, none⟩), .int .i64 (rd s10 x35), .bool false, (j34 10), .int .i64 (w64 (x35 + 1))], []⟩) (by kernel_rfl) ?_
      refine wpList_nil ?_
      refine hK28 n29 _ _ (Nat.lt_succ_self _) ?_
      exact ⟨f66, (w64 (x35 + 1)), (fun i_ => [(j34 0), Value.int .i64 x35, Value.bool true, Value.int .i64 x35, Value.func (.func 76) #[] #[.pointer (some ⟨b1, 0, none⟩), .pointer (some ⟨b3, 0, none⟩)], Value.slice A11 s10.length c12, Value.int .i64 x35, Value.pointer (some ⟨b59, of60 + (x35 : Int).toNat * 1, none⟩), Value.int .i64 (rd s10 x35), Value.bool false, (j34 10), Value.int .i64 (w64 (x35 + 1))].getD i_ undef), (L31.trans L67), HS69, h, (by kernel_rfl)⟩
  · have c41 : ¬ (x35 < (s10.length : Int)) := c41
    refine wpRwI 9 (x := (decide (x35 < (s10.length : Int)))) (v := false) (by kernel_rfl) (decide_eq_false c41) ?_
    refine condF (by kernel_rfl) ?_
    refine wp_exit ?_
    refine hx21 _ _ ?_
    exact J80 f30 (fun i_ => [(j34 0), (j34 1), Value.int .i64 x35, Value.bool false, (j34 3), (j34 4), (j34 5), (j34 6), (j34 7), (j34 8), (j34 9), (j34 10), (j34 11)].getD i_ undef) W32 _ L31 h HS33 (by kernel_rfl)

set_option maxRecDepth 100000 in
set_option maxHeartbeats 4000000 in
theorem slices_DeleteFunc_Quanta__bound_Fuse_Quanta_1.calls (k : Nat) (b1 : Nat) (A6 : Option Addr) (c7 : Nat) (b3 : Nat) (A10 : Option Addr) (c11 : Nat) (s12 : Seg) (v5 : List S_Bound) (v9 : Int) (s14 : List Int) {t w : World} {f : FM} {H : List Seg} (HS : St t w f ([(b1, .cells #[.slice A6 v5.length c7] 32 (0, 0))] :: [(b3, .cells #[.int .i64 v9] 3 (0, 0))] :: s12 :: H)) (HR8 : SlR ty_Bound f A6 c7 v5) (HO13 : Own (tInt .i64) 42 f A10 c11 s12 s14) (r1 : List Int) (h : slices_DeleteFunc_Quanta__bound_Fuse_Quanta_1 k v5 v9 s14 = some r1) :
    Calls Try.prog 78 #[.slice A10 s14.length c11, .func (.func 76) #[] #[.pointer (some ⟨b1, 0, none⟩), .pointer (some ⟨b3, 0, none⟩)]] w (fun e w' => ∃ (g : FM) (A210 : Option Addr) (c211 : Nat) (s212 : Seg), e = .returned (Value.slice A210 r1.length c211) ∧ FM.le f g ∧ St t w' g (s212 :: [(b1, .cells #[.slice A6 v5.length c7] 32 (0, 0))] :: [(b3, .cells #[.int .i64 v9] 3 (0, 0))] :: H) ∧ Own (tInt .i64) 42 g A210 c211 s212 r1) := by
  unfold slices_DeleteFunc_Quanta__bound_Fuse_Quanta_1 at h
  refine enter Try.func78 rfl (tm := #[.slice A10 s14.length c11, .func (.func 76) #[] #[.pointer (some ⟨b1, 0, none⟩), .pointer (some ⟨b3, 0, none⟩)], undef, undef, undef, undef, undef, undef, undef, undef, undef, undef, undef, undef, undef, undef, undef, undef, undef, undef, undef, undef, undef, undef, undef, undef, undef, undef, undef, undef, undef, undef, undef, undef, undef, undef, undef, undef, undef, undef, undef, undef]) (by kernel_rfl) ?_
  intro B hret hnor hnp
  refine wp_seq_k (fun K16 hK17 => ?_)
  refine wp_region_lit ?_
  refine seqS1 (a' := ⟨#[.slice A10 s14.length c11, .func (.func 76) #[] #[.pointer (some ⟨b1, 0, none⟩), .pointer (some ⟨b3, 0, none⟩)], undef, undef, .slice none 0 0, undef, undef, undef, undef, undef, undef, undef, undef, undef, undef, undef, undef, undef, undef, undef, undef, undef, undef, undef, undef, undef, undef, undef, undef, undef, undef, undef, undef, undef, undef, undef, undef, undef, undef, undef, undef, undef], []⟩) (by kernel_rfl) ?_
  refine wpList_nil ?_
  refine hK17 _ _ ?_
  refine wp_seq_k (fun K18 hK19 => ?_)
  refine wp_region_lit ?_
  have HS20 := HS.u2
  obtain ⟨f21, L22, HS23, HR24, th25⟩ := HO13.lend HS20
  have HS26 := HS23.u1
  have HS27 := HS26.u1
  have hq_ := bind_some h; clear h; obtain ⟨vt28, hc29, h⟩ := hq_
  refine seqL2 (by kernel_rfl) ?_
  refine seqK rfl (does_call (f := 107) (args := #[.slice A10 s14.length c11, .func (.func 76) #[] #[.pointer (some ⟨b1, 0, none⟩), .pointer (some ⟨b3, 0, none⟩)]]) (by kernel_rfl) (slices_IndexFunc_Quanta__bound_Fuse_Quanta_1.calls k b1 A6 c7 b3 A10 c11 v5 v9 s14 HS27 (HR8.mono L22) HR24 vt28 hc29) ?_)
  rintro _ W32 ⟨f30, rfl, L31, HS33⟩
  refine ⟨_, rfl, ?_⟩
  obtain ⟨f34, L35, HS36⟩ := th25 L31 HS33
  refine seqS1 (a' := ⟨#[.slice A10 s14.length c11, .func (.func 76) #[] #[.pointer (some ⟨b1, 0, none⟩), .pointer (some ⟨b3, 0, none⟩)], undef, undef, .slice none 0 0, .int .i64 vt28, undef, undef, .slice A10 s14.length c11, .func (.func 76) #[] #[.pointer (some ⟨b1, 0, none⟩), .pointer (some ⟨b3, 0, none⟩)], .int .i64 vt28, undef, undef, undef, undef, undef, undef, undef, undef, undef, undef, undef, undef, undef, undef, undef, undef, undef, undef, undef, undef, undef, undef, undef, undef, undef, undef, undef, undef, undef, undef, undef], []⟩) (by kernel_rfl) ?_
  refine wpList_nil ?_
  refine hK19 _ _ ?_
  refine wp_seq_k (fun K37 hK38 => ?_)
  refine wp_seq_k (fun K39 hK40 => ?_)
  refine wp_region_lit ?_
  refine seqS2 (a' := ⟨#[.slice A10 s14.length c11, .func (.func 76) #[] #[.pointer (some ⟨b1, 0, none⟩), .pointer (some ⟨b3, 0, none⟩)], undef, undef, .slice none 0 0, .int .i64 vt28, undef, undef, .slice A10 s14.length c11, .func (.func 76) #[] #[.pointer (some ⟨b1, 0, none⟩), .pointer (some ⟨b3, 0, none⟩)], .int .i64 vt28, .int .i64 vt28, .bool (vt28 == (-1)), undef, undef, undef, undef, undef, undef, undef, undef, undef, undef, undef, undef, undef, undef, undef, undef, undef, undef, undef, undef, undef, undef, undef, undef, undef, undef, undef, undef, undef], []⟩) (by kernel_rfl) ?_
  refine wpList_nil ?_
  refine hK40 _ _ ?_
  have hq_ := ite_some h; clear h; rcases hq_ with ⟨c42, h⟩ | ⟨c42, h⟩
  · have c42 : vt28 = (-1) := c42
    refine wpRwI 12 (x := (vt28 == (-1))) (v := true) (by kernel_rfl) (beq_iff_eq.mpr c42) ?_
    refine condT (by kernel_rfl) ?_
    refine wp_seq_k (fun K43 hK44 => ?_)
    refine wp_region_lit ?_
    refine seqS2 (a' := ⟨#[.slice A10 s14.length c11, .func (.func 76) #[] #[.pointer (some ⟨b1, 0, none⟩), .pointer (some ⟨b3, 0, none⟩)], undef, undef, .slice A10 s14.length c11, .int .i64 vt28, undef, undef, .slice A10 s14.length c11, .func (.func 76) #[] #[.pointer (some ⟨b1, 0, none⟩), .pointer (some ⟨b3, 0, none⟩)], .int .i64 vt28, .int .i64 vt28, .bool true, .slice A10 s14.length c11, undef, undef, undef, undef, undef, undef, undef, undef, undef, undef, undef, undef, undef, undef, undef, undef, undef, undef, undef, undef, undef, undef, undef, undef, undef, undef, undef, undef], []⟩) (by kernel_rfl) ?_
    refine wpList_nil ?_
    refine hK44 _ _ ?_
    refine wp_ret ?_
    refine hret _ _ ?_
    refine ends_still (v := Value.slice A10 s14.length c11) (by kernel_rfl) (by kernel_rfl) ?_
    injection h with h
    subst h
    exact ⟨f34, A10, c11, s12, rfl, L35, HS36, (HO13.mono L35)⟩
  · have c42 : ¬ (vt28 = (-1)) := c42
    refine wpRwI 12 (x := (vt28 == (-1))) (v := false) (by kernel_rfl) (beq_eq_false_iff_ne.mpr c42) ?_
    refine condF (by kernel_rfl) ?_
    refine wp_skip ?_
    refine hK38 _ _ ?_
    refine wp_seq_k (fun K45 hK46 => ?_)
    refine wp_seq_k (fun K47 hK48 => ?_)
    refine wp_region_lit ?_
    refine seqS3 (a' := ⟨#[.slice A10 s14.length c11, .func (.func 76) #[] #[.pointer (some ⟨b1, 0, none⟩), .pointer (some ⟨b3, 0, none⟩)], undef, undef, .slice none 0 0, .int .i64 vt28, .int .i64 (w64 (vt28 + 1)), undef, .slice A10 s14.length c11, .func (.func 76) #[] #[.pointer (some ⟨b1, 0, none⟩), .pointer (some ⟨b3, 0, none⟩)], .int .i64 vt28, .int .i64 vt28, .bool false, undef, .int .i64 vt28, .int .i64 (w64 (vt28 + 1)), undef, undef, undef, undef, undef, undef, undef, undef, undef, undef, undef, undef, undef, undef, undef, undef, undef, undef, undef, undef, undef, undef, undef, undef, undef, undef], []⟩) (by kernel_rfl) ?_
    refine wpList_nil ?_
    refine hK48 _ _ ?_
    refine blockK (fun B49 hx50 hn51 hr52 ho53 hp54 => ?_)
    have hq_ := bind_some h; clear h; obtain ⟨o117, hv193, h⟩ := hq_
    have J194 : ∀ (f183 : FM) (s189 : Seg) (s188 : List Int) (i192 : Int) (j187 : Nat → Value) (W185 : World) (a_ : Act), FM.le f34 f183 → some ((s188, i192)) = some o117 → St t W185 f183 (s189 :: [(b1, .cells #[.slice A6 v5.length c7] 32 (0, 0))] :: [(b3, .cells #[.int .i64 v9] 3 (0, 0))] :: H) → Own (tInt .i64) 42 f183 A10 c11 s189 s188 → s188.length = s14.length → a_ = ⟨#[.slice A10 s188.length c11, .func (.func 76) #[] #[.pointer (some ⟨b1, 0, none⟩), .pointer (some ⟨b3, 0, none⟩)], undef, undef, .slice none 0 0, .int .i64 i192, (j187 0), (j187 1), (j187 2), .func (.func 76) #[] #[.pointer (some ⟨b1, 0, none⟩), .pointer (some ⟨b3, 0, none⟩)], .int .i64 vt28, .int .i64 vt28, .bool false, undef, .int .i64 vt28, .int .i64 (w64 (vt28 + 1)), (j187 3), (j187 4), (j187 5), (j187 6), (j187 7), (j187 8), (j187 9), (j187 10), (j187 11), (j187 12), (j187 13), (j187 14), (j187 15), (j187 16), (j187 17), (j187 18), (j187 19), (j187 20), (j187 21), (j187 22), undef, undef, undef, undef, undef, undef], []⟩ → K45 a_ W185 := by
      intro f183 s189 s188 i192 j187 W185 a_ L184 hj195 HS186 HO190 HL191 hfr_; subst hfr_
      injection hj195 with hj195; subst hj195; try dsimp only at h
      refine hK46 _ _ ?_
      refine wp_seq_k (fun K199 hK200 => ?_)
      refine wp_region_lit ?_
      have hq_ := guard_some h; clear h; obtain ⟨c201, h⟩ := hq_
      have c201 : 0 ≤ i192 := c201
      have hq_ := guard_some h; clear h; obtain ⟨c202, h⟩ := hq_
      have c202 : i192 ≤ (s188.length : Int) := c202
      refine seqL2 (by kernel_rfl) ?_
      refine seqK rfl (does_run (run_cutV (e := (tInt .i64)) (xs := s188) rfl Try.underlying28 (by kernel_rfl) (by kernel_rfl : _ = Value.slice A10 s188.length c11) (by kernel_rfl : _ = Value.int .i64 i192) c201 c202 HO190.le W185) ?_)
      refine seqK rfl (does_clear (e := (tInt .i64)) (E := 42) (A := A10) (c := c11) (n := (i192).toNat) (xs := s188) (u := 0) rfl Try.underlying28 inf42 (by kernel_rfl : _ = Value.slice (cutA A10 c11 (i192).toNat 1) (s188.drop (i192).toNat).length (c11 - (i192).toNat)) rfl (by omega) rfl HO190 HS186 ?_)
      intro W203 s204 HS205 HO206
      refine seqRwS 0 (A := A10) (m := s188.length) (n := (clr s188 (i192).toNat 0).length) (c := c11) (by kernel_rfl) ((clr_lenI c201 c202)).symm ?_
      refine seqRwS 36 (A := A10) (m := s188.length) (n := (clr s188 (i192).toNat 0).length) (c := c11) (by kernel_rfl) ((clr_lenI c201 c202)).symm ?_
      refine wpList_nil ?_
      refine hK200 _ _ ?_
      refine wp_seq_k (fun K207 hK208 => ?_)
      refine wp_region_lit ?_
      have hq_ := guard_some h; clear h; obtain ⟨c209, h⟩ := hq_
      have c209 : i192 ≤ ((clr s188 (i192).toNat 0).length : Int) := c209
      refine seqL2 (by kernel_rfl) ?_
      refine seqK rfl (does_run (run_cutH (e := (tInt .i64)) (xs := (clr s188 (i192).toNat 0)) rfl Try.underlying28 (by kernel_rfl) (by kernel_rfl : _ = Value.slice A10 (clr s188 (i192).toNat 0).length c11) (by kernel_rfl : _ = Value.int .i64 i192) c201 c209 HO206.le W203) ?_)
      refine seqS1 (a' := ⟨#[.slice A10 (clr s188 (i192).toNat 0).length c11, .func (.func 76) #[] #[.pointer (some ⟨b1, 0, none⟩), .pointer (some ⟨b3, 0, none⟩)], undef, undef, .slice A10 ((clr s188 (i192).toNat 0).take (i192).toNat).length c11, .int .i64 i192, (j187 0), (j187 1), (j187 2), .func (.func 76) #[] #[.pointer (some ⟨b1, 0, none⟩), .pointer (some ⟨b3, 0, none⟩)], .int .i64 vt28, .int .i64 vt28, .bool false, undef, .int .i64 vt28, .int .i64 (w64 (vt28 + 1)), (j187 3), (j187 4), (j187 5), (j187 6), (j187 7), (j187 8), (j187 9), (j187 10), (j187 11), (j187 12), (j187 13), (j187 14), (j187 15), (j187 16), (j187 17), (j187 18), (j187 19), (j187 20), (j187 21), (j187 22), .slice A10 (clr s188 (i192).toNat 0).length c11, .int .i64 i192, .slice (cutA A10 c11 (i192).toNat 1) (s188.drop (i192).toNat).length (c11 - (i192).toNat), .slice A10 (clr s188 (i192).toNat 0).length c11, .int .i64 i192, .slice A10 ((clr s188 (i192).toNat 0).take (i192).toNat).length c11], []⟩) (by kernel_rfl) ?_
      refine wpList_nil ?_
      refine hK208 _ _ ?_
      refine wp_ret ?_
      refine hret _ _ ?_
      refine ends_still (v := Value.slice A10 ((clr s188 (i192).toNat 0).take (i192).toNat).length c11) (by kernel_rfl) (by kernel_rfl) ?_
      injection h with h
      subst h
      exact ⟨f183, A10, c11, s204, rfl, (L35.trans L184), HS205, (HO206.take _)⟩
    clear h; have h := hv193; clear hv193
    refine loopK (fun n_ a_ w_ => ∃ (f121 : FM) (s127 : Seg) (s126 : List Int) (i130 : Int) (j131 : Int) (j125 : Nat → Value), FM.le f34 f121 ∧ St t w_ f121 (s127 :: [(b1, .cells #[.slice A6 v5.length c7] 32 (0, 0))] :: [(b3, .cells #[.int .i64 v9] 3 (0, 0))] :: H) ∧ Own (tInt .i64) 42 f121 A10 c11 s127 s126 ∧ s126.length = s14.length ∧ slices_DeleteFunc_Quanta__bound_Fuse_Quanta_1.l0 k v5 v9 n_ s126 i130 j131 = some o117 ∧ a_ = ⟨#[.slice A10 s126.length c11, .func (.func 76) #[] #[.pointer (some ⟨b1, 0, none⟩), .pointer (some ⟨b3, 0, none⟩)], undef, undef, .slice none 0 0, .int .i64 i130, .int .i64 j131, (j125 0), .slice A10 s14.length c11, .func (.func 76) #[] #[.pointer (some ⟨b1, 0, none⟩), .pointer (some ⟨b3, 0, none⟩)], .int .i64 vt28, .int .i64 vt28, .bool false, undef, .int .i64 vt28, .int .i64 (w64 (vt28 + 1)), (j125 1), (j125 2), (j125 3), (j125 4), (j125 5), (j125 6), (j125 7), (j125 8), (j125 9), (j125 10), (j125 11), (j125 12), (j125 13), (j125 14), (j125 15), (j125 16), (j125 17), (j125 18), (j125 19), (j125 20), undef, undef, undef, undef, undef, undef], []⟩) k ⟨f34, s12, s14, vt28, (w64 (vt28 + 1)), (fun i_ => [undef, undef, undef, undef, undef, undef, undef, undef, undef, undef, undef, undef, undef, undef, undef, undef, undef, undef, undef, undef, undef].getD i_ undef), (FM.le.refl _), HS36, (HO13.mono L35), rfl, h, (by kernel_rfl)⟩ ?_
    clear h
    rintro n120 _ W123 ⟨f121, s127, s126, i130, j131, j125, L122, HS124, HO128, HL129, h, rfl⟩ K118 hK119
    obtain _ | n120 := n120
    · exact nomatch h
    simp only [slices_DeleteFunc_Quanta__bound_Fuse_Quanta_1.l0] at h
    refine wp_seq_k (fun K132 hK133 => ?_)
    refine wp_seq_k (fun K134 hK135 => ?_)
    refine wp_region_lit ?_
    refine seqS4 (a' := ⟨#[.slice A10 s126.length c11, .func (.func 76) #[] #[.pointer (some ⟨b1, 0, none⟩), .pointer (some ⟨b3, 0, none⟩)], undef, undef, .slice none 0 0, .int .i64 i130, .int .i64 j131, (j125 0), .slice A10 s14.length c11, .func (.func 76) #[] #[.pointer (some ⟨b1, 0, none⟩), .pointer (some ⟨b3, 0, none⟩)], .int .i64 vt28, .int .i64 vt28, .bool false, undef, .int .i64 vt28, .int .i64 (w64 (vt28 + 1)), .int .i64 j131, .slice A10 s126.length c11, .int .i64 (s126.length : Int), .bool (decide (j131 < (s126.length : Int))), (j125 5), (j125 6), (j125 7), (j125 8), (j125 9), (j125 10), (j125 11), (j125 12), (j125 13), (j125 14), (j125 15), (j125 16), (j125 17), (j125 18), (j125 19), (j125 20), undef, undef, undef, undef, undef, undef], []⟩) (by kernel_rfl) ?_
    refine wpList_nil ?_
    refine hK135 _ _ ?_
    have hq_ := ite_some h; clear h; rcases hq_ with ⟨c137, h⟩ | ⟨c137, h⟩
    · have c137 : j131 < (s126.length : Int) := c137
      refine wpRwI 19 (x := (decide (j131 < (s126.length : Int)))) (v := true) (by kernel_rfl) (decide_eq_true c137) ?_
      refine condT (by kernel_rfl) ?_
      refine wp_skip ?_
      refine hK133 _ _ ?_
      refine wp_seq_k (fun K138 hK139 => ?_)
      refine blockK (fun B140 hx141 hn142 hr143 ho144 hp145 => ?_)
      refine wp_seq_k (fun K147 hK148 => ?_)
      refine wp_region_lit ?_
      have hq_ := guard_some h; clear h; obtain ⟨c149, h⟩ := hq_
      have c149 : 0 ≤ j131 := c149
      obtain ⟨b153, of154, cs150, hA155, hr151, hc152⟩ := HO128.at (i := j131) c149 c137
      obtain rfl := hr151
      refine seqL2 (by kernel_rfl) ?_
      refine seqK rfl (does_run (run_indexE hA155 (sz := 1) rfl Try.underlying28 (by kernel_rfl) (by kernel_rfl : _ = Value.slice A10 s126.length c11) (by kernel_rfl : _ = Value.int .i64 j131) c149 c137 W123) ?_)
      refine seqK rfl (does_run (run_load rfl Try.underlying42 rfl (by kernel_rfl : _ = Value.pointer (some ⟨b153, of154 + (j131 : Int).toNat * 1, none⟩)) ((hc152 HS124) 0 (by decide))) ?_)
      refine seqS1 (a' := ⟨#[.slice A10 s126.length c11, .func (.func 76) #[] #[.pointer (some ⟨b1, 0, none⟩), .pointer (some ⟨b3, 0, none⟩)], undef, undef, .slice none 0 0, .int .i64 i130, .int .i64 j131, .int .i64 (rd s126 j131), .slice A10 s14.length c11, .func (.func 76) #[] #[.pointer (some ⟨b1, 0, none⟩), .pointer (some ⟨b3, 0, none⟩)], .int .i64 vt28, .int .i64 vt28, .bool false, undef, .int .i64 vt28, .int .i64 (w64 (vt28 + 1)), .int .i64 j131, .slice A10 s126.length c11, .int .i64 (s126.length : Int), .bool true, (j125 5), (j125 6), .slice A10 s126.length c11, .int .i64 j131, .pointer (some ⟨b153, of154 + (j131 : Int).toNat * 1, none⟩), .int .i64 (rd s126 j131), (j125 11), (j125 12), (j125 13), (j125 14), (j125 15), (j125 16), (j125 17), (j125 18), (j125 19), (j125 20), undef, undef, undef, undef, undef, undef], []⟩) (by kernel_rfl) ?_
      refine wpList_nil ?_
      refine hK148 _ _ ?_
      refine wp_seq_k (fun K156 hK157 => ?_)
      refine wp_region_lit ?_
      have HS158 := HS124.u2
      have HS159 := HS158.u2
      have hq_ := bind_some h; clear h; obtain ⟨vt160, hc161, h⟩ := hq_
      refine seqL2 (by kernel_rfl) ?_
      refine seqK rfl (does_call (f := 76) (args := #[.int .i64 (rd s126 j131), .pointer (some ⟨b1, 0, none⟩), .pointer (some ⟨b3, 0, none⟩)]) (by kernel_rfl) (bound_Fuse_Quanta_1.calls k b1 A6 c7 b3 v5 v9 (rd s126 j131) HS159 (HR8.mono (L35.trans L122)) vt160 hc161) ?_)
      rintro _ W164 ⟨f162, rfl, L163, HS165⟩
      refine ⟨_, rfl, ?_⟩
      refine seqS1 (a' := ⟨#[.slice A10 s126.length c11, .func (.func 76) #[] #[.pointer (some ⟨b1, 0, none⟩), .pointer (some ⟨b3, 0, none⟩)], undef, undef, .slice none 0 0, .int .i64 i130, .int .i64 j131, .int .i64 (rd s126 j131), .slice A10 s14.length c11, .func (.func 76) #[] #[.pointer (some ⟨b1, 0, none⟩), .pointer (some ⟨b3, 0, none⟩)], .int .i64 vt28, .int .i64 vt28, .bool false, undef, .int .i64 vt28, .int .i64 (w64 (vt28 + 1)), .int .i64 j131, .slice A10 s126.length c11, .int .i64 (s126.length : Int), .bool true, (j125 5), (j125 6), .slice A10 s126.length c11, .int .i64 j131, .pointer (some ⟨b153, of154 + (j131 : Int).toNat * 1, none⟩), .int .i64 (rd s126 j131), .func (.func 76) #[] #[.pointer (some ⟨b1, 0, none⟩), .pointer (some ⟨b3, 0, none⟩)], .int .i64 (rd s126 j131), .bool vt160, .bool (!vt160), (j125 15), (j125 16), (j125 17), (j125 18), (j125 19), (j125 20), undef, undef, undef, undef, undef, undef], []⟩) (by kernel_rfl) ?_
      refine wpList_nil ?_
      refine hK157 _ _ ?_
      have hq_ := ite_some h; clear h; rcases hq_ with ⟨c167, h⟩ | ⟨c167, h⟩
      · have c167 : ¬ (vt160 = true) := c167
        refine wpRwI 29 (x := (!vt160)) (v := true) (by kernel_rfl) (congrArg (fun b_ => !b_) (show vt160 = false from (Bool.eq_false_iff.mpr c167)) : (!vt160) = true) ?_
        refine condT (by kernel_rfl) ?_
        refine wp_seq_k (fun K168 hK169 => ?_)
        refine wp_region_lit ?_
        have hq_ := guard_some h; clear h; obtain ⟨c170, h⟩ := hq_
        have c170 : 0 ≤ i130 := c170
        have hq_ := guard_some h; clear h; obtain ⟨c171, h⟩ := hq_
        have c171 : i130 < (s126.length : Int) := c171
        obtain ⟨b175, of176, cs172, hA177, hr173, hc174⟩ := (HO128.mono L163).at (i := i130) c170 c171
        obtain rfl := hr173
        refine seqL3 (by kernel_rfl) ?_
        refine seqK rfl (does_run (run_indexE hA177 (sz := 1) rfl Try.underlying28 (by kernel_rfl) (by kernel_rfl : _ = Value.slice A10 s126.length c11) (by kernel_rfl : _ = Value.int .i64 i130) c170 c171 W164) ?_)
        have HS178 := HS165.u2
        refine seqK rfl (does_put (e := (tInt .i64)) (E := 42) (vs := [.int .i64 (rd s126 j131)]) (u := (rd s126 j131)) (i := i130) rfl (by kernel_rfl) (HO128.mono L163) HS178 hA177 (by kernel_rfl : _ = Value.pointer (some ⟨b175, of176 + (i130 : Int).toNat * 1, none⟩)) (by kernel_rfl : _ = Value.int .i64 (rd s126 j131)) rfl rfl c170 c171 ?_)
        intro W179 s180 HS181 HO182
        refine seqRwS 0 (A := A10) (m := s126.length) (n := (s126.set (i130).toNat (rd s126 j131)).length) (c := c11) (by kernel_rfl) (List.length_set).symm ?_
        refine seqRwS 17 (A := A10) (m := s126.length) (n := (s126.set (i130).toNat (rd s126 j131)).length) (c := c11) (by kernel_rfl) (List.length_set).symm ?_
        refine seqRwS 22 (A := A10) (m := s126.length) (n := (s126.set (i130).toNat (rd s126 j131)).length) (c := c11) (by kernel_rfl) (List.length_set).symm ?_
        refine seqRwS 30 (A := A10) (m := s126.length) (n := (s126.set (i130).toNat (rd s126 j131)).length) (c := c11) (by kernel_rfl) (List.length_set).symm ?_
        refine wpList_nil ?_
        refine hK169 _ _ ?_
        refine wp_region_lit ?_
        refine seqS3 (a' := ⟨#[.slice A10 (s126.set (i130).toNat (rd s126 j131)).length c11, .func (.func 76) #[] #[.pointer (some ⟨b1, 0, none⟩), .pointer (some ⟨b3, 0, none⟩)], undef, undef, .slice none 0 0, .int .i64 (w64 (i130 + 1)), .int .i64 j131, .int .i64 (rd s126 j131), .slice A10 s14.length c11, .func (.func 76) #[] #[.pointer (some ⟨b1, 0, none⟩), .pointer (some ⟨b3, 0, none⟩)], .int .i64 vt28, .int .i64 vt28, .bool false, undef, .int .i64 vt28, .int .i64 (w64 (vt28 + 1)), .int .i64 j131, .slice A10 (s126.set (i130).toNat (rd s126 j131)).length c11, .int .i64 (s126.length : Int), .bool true, (j125 5), (j125 6), .slice A10 (s126.set (i130).toNat (rd s126 j131)).length c11, .int .i64 j131, .pointer (some ⟨b153, of154 + (j131 : Int).toNat * 1, none⟩), .int .i64 (rd s126 j131), .func (.func 76) #[] #[.pointer (some ⟨b1, 0, none⟩), .pointer (some ⟨b3, 0, none⟩)], .int .i64 (rd s126 j131), .bool vt160, .bool true, .slice A10 (s126.set (i130).toNat (rd s126 j131)).length c11, .int .i64 i130, .int .i64 (rd s126 j131), .pointer (some ⟨b175, of176 + (i130 : Int).toNat * 1, none⟩), .int .i64 i130, .int .i64 (w64 (i130 + 1)), undef, undef, undef, undef, undef, undef], []⟩) (by kernel_rfl) ?_
        refine wpList_nil ?_
        refine hn142 _ _ ?_
        refine hK139 _ _ ?_
        refine wp_region_lit ?_
        refine seqS3 (a' := ⟨#[.slice A10 (s126.set (i130).toNat (rd s126 j131)).length c11, .func (.func 76) #[] #[.pointer (some ⟨b1, 0, none⟩), .pointer (some ⟨b3, 0, none⟩)], undef, undef, .slice none 0 0, .int .i64 (w64 (i130 + 1)), .int .i64 (w64 (j131 + 1)), .int .i64 (rd s126 j131), .slice A10 s14.length c11, .func (.func 76) #[] #[.pointer (some ⟨b1, 0, none⟩), .pointer (some ⟨b3, 0, none⟩)], .int .i64 vt28, .int .i64 vt28, .bool false, undef, .int .i64 vt28, .int .i64 (w64 (vt28 + 1)), .int .i64 j131, .slice A10 (s126.set (i130).toNat (rd s126 j131)).length c11, .int .i64 (s126.length : Int), .bool true, .int .i64 j131, .int .i64 (w64 (j131 + 1)), .slice A10 (s126.set (i130).toNat (rd s126 j131)).length c11, .int .i64 j131, .pointer (some ⟨b153, of154 + (j131 : Int).toNat * 1, none⟩), .int .i64 (rd s126 j131), .func (.func 76) #[] #[.pointer (some ⟨b1, 0, none⟩), .pointer (some ⟨b3, 0, none⟩)], .int .i64 (rd s126 j131), .bool vt160, .bool true, .slice A10 (s126.set (i130).toNat (rd s126 j131)).length c11, .int .i64 i130, .int .i64 (rd s126 j131), .pointer (some ⟨b175, of176 + (i130 : Int).toNat * 1, none⟩), .int .i64 i130, .int .i64 (w64 (i130 + 1)), undef, undef, undef, undef, undef, undef], []⟩) (by kernel_rfl) ?_
        refine wpList_nil ?_
        refine hK119 n120 _ _ (Nat.lt_succ_self _) ?_
        exact ⟨f162, s180, (s126.set (i130).toNat (rd s126 j131)), (w64 (i130 + 1)), (w64 (j131 + 1)), (fun i_ => [Value.int .i64 (rd s126 j131), Value.int .i64 j131, Value.slice A10 (s126.set (i130).toNat (rd s126 j131)).length c11, Value.int .i64 (s126.length : Int), Value.bool true, Value.int .i64 j131, Value.int .i64 (w64 (j131 + 1)), Value.slice A10 (s126.set (i130).toNat (rd s126 j131)).length c11, Value.int .i64 j131, Value.pointer (some ⟨b153, of154 + (j131 : Int).toNat * 1, none⟩), Value.int .i64 (rd s126 j131), Value.func (.func 76) #[] #[.pointer (some ⟨b1, 0, none⟩), .pointer (some ⟨b3, 0, none⟩)], Value.int .i64 (rd s126 j131), Value.bool vt160, Value.bool true, Value.slice A10 (s126.set (i130).toNat (rd s126 j131)).length c11, Value.int .i64 i130, Value.int .i64 (rd s126 j131), Value.pointer (some ⟨b175, of176 + (i130 : Int).toNat * 1, none⟩), Value.int .i64 i130, Value.int .i64 (w64 (i130 + 1))].getD i_ undef), (L122.trans L163), HS181, HO182, (List.length_set.trans HL129), h, (by kernel_rfl)⟩
      · have c167 : ¬ (¬ (vt160 = true)) := c167
        refine wpRwI 29 (x := (!vt160)) (v := false) (by kernel_rfl) (congrArg (fun b_ => !b_) (show vt160 = true from (Decidable.of_not_not c167)) : (!vt160) = false) ?_
        refine condF (by kernel_rfl) ?_
        refine wp_skip ?_
        refine hn142 _ _ ?_
        refine hK139 _ _ ?_
        refine wp_region_lit ?_
        refine seqS3 (a' := ⟨#[.slice A10 s126.length c11, .func (.func 76) #[] #[.pointer (some ⟨b1, 0, none⟩), .pointer (some ⟨b3, 0, none⟩)], undef, undef, .slice none 0 0, .int .i64 i130, .int .i64 (w64 (j131 + 1)), .int .i64 (rd s126 j131), .slice A10 s14.length c11, .func (.func 76) #[] #[.pointer (some ⟨b1, 0, none⟩), .pointer (some ⟨b3, 0, none⟩)], .int .i64 vt28, .int .i64 vt28, .bool false, undef, .int .i64 vt28, .int .i64 (w64 (vt28 + 1)), .int .i64 j131, .slice A10 s126.length c11, .int .i64 (s126.length : Int), .bool true, .int .i64 j131, .int .i64 (w64 (j131 + 1)), .slice A10 s126.length c11, .int .i64 j131, .pointer (some ⟨b153, of154 + (j131 : Int).toNat * 1, none⟩), .int .i64 (rd s126 j131), .func (.func 76) #[] #[.pointer (some ⟨b1, 0, none⟩), .pointer (some ⟨b3, 0, none⟩)], .int .i64 (rd s126 j131), .bool vt160, .bool false, (j125 15), (j125 16), (j125 17), (j125 18), (j125 19), (j125 20), undef, undef, undef, undef, undef, undef], []⟩) (by kernel_rfl) ?_
        refine wpList_nil ?_
        refine hK119 n120 _ _ (Nat.lt_succ_self _) ?_
        have HS196 := HS165.u1
        have HS197 := HS196.u1
        have HS198 := HS197.u2
        exact ⟨f162, s127, s126, i130, (w64 (j131 + 1)), (fun i_ => [Value.int .i64 (rd s126 j131), Value.int .i64 j131, Value.slice A10 s126.length c11, Value.int .i64 (s126.length : Int), Value.bool true, Value.int .i64 j131, Value.int .i64 (w64 (j131 + 1)), Value.slice A10 s126.length c11, Value.int .i64 j131, Value.pointer (some ⟨b153, of154 + (j131 : Int).toNat * 1, none⟩), Value.int .i64 (rd s126 j131), Value.func (.func 76) #[] #[.pointer (some ⟨b1, 0, none⟩), .pointer (some ⟨b3, 0, none⟩)], Value.int .i64 (rd s126 j131), Value.bool vt160, Value.bool false, (j125 15), (j125 16), (j125 17), (j125 18), (j125 19), (j125 20)].getD i_ undef), (L122.trans L163), HS198, (HO128.mono L163), HL129, h, (by kernel_rfl)⟩
    · have c137 : ¬ (j131 < (s126.length : Int)) := c137
      refine wpRwI 19 (x := (decide (j131 < (s126.length : Int)))) (v := false) (by kernel_rfl) (decide_eq_false c137) ?_
      refine condF (by kernel_rfl) ?_
      refine wp_exit ?_
      refine hx50 _ _ ?_
      exact J194 f121 s127 s126 i130 (fun i_ => [Value.int .i64 j131, (j125 0), Value.slice A10 s14.length c11, Value.int .i64 j131, Value.slice A10 s126.length c11, Value.int .i64 (s126.length : Int), Value.bool false, (j125 5), (j125 6), (j125 7), (j125 8), (j125 9), (j125 10), (j125 11), (j125 12), (j125 13), (j125 14), (j125 15), (j125 16), (j125 17), (j125 18), (j125 19), (j125 20)].getD i_ undef) W123 _ L122 h HS124 HO128 HL129 (by kernel_rfl)

set_option maxRecDepth 100000 in
set_option maxHeartbeats 4000000 in
theorem slices_Min_Quanta.calls (k : Nat) (A2 : Option Addr) (c3 : Nat) (x1 : List Int) {t w : World} {f : FM} {H : List Seg} (HS : St t w f (H)) (HR4 : SlR (tInt .i64) f A2 c3 x1) (r1 : Int) (h : slices_Min_Quanta k x1 = some r1) :
    Calls Try.prog 79 #[.slice A2 x1.length c3] w (fun e w' => ∃ (g : FM), e = .returned (Value.int .i64 r1) ∧ FM.le f g ∧ St t w' g (H)) := by
  unfold slices_Min_Quanta at h
  refine enter Try.func79 rfl (tm := #[.slice A2 x1.length c3, undef, undef, undef, undef, undef, undef, undef, undef, undef, undef, undef, undef, undef, undef, undef, undef, undef, undef, undef, undef, undef, undef, undef, undef]) (by kernel_rfl) ?_
  intro B hret hnor hnp
  refine wp_seq_k (fun K5 hK6 => ?_)
  refine wp_region_lit ?_
  refine seqS1 (a' := ⟨#[.slice A2 x1.length c3, undef, .int .i64 0, undef, undef, undef, undef, undef, undef, undef, undef, undef, undef, undef, undef, undef, undef, undef, undef, undef, undef, undef, undef, undef, undef], []⟩) (by kernel_rfl) ?_
  refine wpList_nil ?_
  refine hK6 _ _ ?_
  refine wp_seq_k (fun K7 hK8 => ?_)
  refine wp_seq_k (fun K9 hK10 => ?_)
  refine wp_region_lit ?_
  refine seqS3 (a' := ⟨#[.slice A2 x1.length c3, undef, .int .i64 0, undef, undef, .slice A2 x1.length c3, .int .i64 (x1.length : Int), .bool (decide ((x1.length : Int) < 1)), undef, undef, undef, undef, undef, undef, undef, undef, undef, undef, undef, undef, undef, undef, undef, undef, undef], []⟩) (by kernel_rfl) ?_
  refine wpList_nil ?_
  refine hK10 _ _ ?_
  have hq_ := ite_some h; clear h; rcases hq_ with ⟨c12, h⟩ | ⟨c12, h⟩
  · have c12 : (x1.length : Int) < 1 := c12
    refine wpRwI 7 (x := (decide ((x1.length : Int) < 1))) (v := true) (by kernel_rfl) (decide_eq_true c12) ?_
    refine condT (by kernel_rfl) ?_
    exact nomatch h
  · have c12 : ¬ ((x1.length : Int) < 1) := c12
    refine wpRwI 7 (x := (decide ((x1.length : Int) < 1))) (v := false) (by kernel_rfl) (decide_eq_false c12) ?_
    refine condF (by kernel_rfl) ?_
    refine wp_skip ?_
    refine hK8 _ _ ?_
    refine wp_seq_k (fun K13 hK14 => ?_)
    refine wp_region_lit ?_
    have hq_ := guard_some h; clear h; obtain ⟨c15, h⟩ := hq_
    have c15 : 0 < (x1.length : Int) := c15
    obtain ⟨b19, of20, cs16, hA21, hr17, hc18⟩ := HR4.at (i := 0) (by decide) c15
    obtain rfl := hr17
    refine seqL1 (by kernel_rfl) ?_
    refine seqK rfl (does_run (run_indexE hA21 (sz := 1) rfl Try.underlying28 (by kernel_rfl) (by kernel_rfl : _ = Value.slice A2 x1.length c3) (by kernel_rfl : _ = Value.int .i64 0) (by decide) c15 w) ?_)
    refine seqK rfl (does_run (run_load rfl Try.underlying42 rfl (by kernel_rfl : _ = Value.pointer (some ⟨b19, of20 + (0 : Int).toNat * 1, none⟩)) ((hc18 (FM.le.refl _) HS) 0 (by decide))) ?_)
    refine seqS1 (a' := ⟨#[.slice A2 x1.length c3, undef, .int .i64 0, .int .i64 (rd x1 0), undef, .slice A2 x1.length c3, .int .i64 (x1.length : Int), .bool false, undef, .slice A2 x1.length c3, .pointer (some ⟨b19, of20 + (0 : Int).toNat * 1, none⟩), .int .i64 (rd x1 0), undef, undef, undef, undef, undef, undef, undef, undef, undef, undef, undef, undef, undef], []⟩) (by kernel_rfl) ?_
    refine wpList_nil ?_
    refine hK14 _ _ ?_
    refine wp_seq_k (fun K22 hK23 => ?_)
    refine wp_seq_k (fun K24 hK25 => ?_)
    refine wp_region_lit ?_
    refine seqS1 (a' := ⟨#[.slice A2 x1.length c3, undef, .int .i64 0, .int .i64 (rd x1 0), .int .i64 1, .slice A2 x1.length c3, .int .i64 (x1.length : Int), .bool false, undef, .slice A2 x1.length c3, .pointer (some ⟨b19, of20 + (0 : Int).toNat * 1, none⟩), .int .i64 (rd x1 0), undef, undef, undef, undef, undef, undef, undef, undef, undef, undef, undef, undef, undef], []⟩) (by kernel_rfl) ?_
    refine wpList_nil ?_
    refine hK25 _ _ ?_
    refine blockK (fun B26 hx27 hn28 hr29 ho30 hp31 => ?_)
    have hq_ := bind_some h; clear h; obtain ⟨o32, hv71, h⟩ := hq_
    have J72 : ∀ (f65 : FM) (m70 : Int) (j69 : Nat → Value) (W67 : World) (a_ : Act), FM.le f f65 → some (m70) = some o32 → St t W67 f65 (H) → a_ = ⟨#[.slice A2 x1.length c3, undef, .int .i64 0, .int .i64 m70, (j69 0), .slice A2 x1.length c3, .int .i64 (x1.length : Int), .bool false, undef, .slice A2 x1.length c3, .pointer (some ⟨b19, of20 + (0 : Int).toNat * 1, none⟩), .int .i64 (rd x1 0), (j69 1), (j69 2), (j69 3), (j69 4), (j69 5), (j69 6), (j69 7), (j69 8), (j69 9), (j69 10), (j69 11), (j69 12), undef], []⟩ → K22 a_ W67 := by
      intro f65 m70 j69 W67 a_ L66 hj73 HS68  hfr_; subst hfr_
      injection hj73 with hj73; subst hj73; try dsimp only at h
      refine hK23 _ _ ?_
      refine wp_seq_k (fun K74 hK75 => ?_)
      refine wp_region_lit ?_
      refine seqS2 (a' := ⟨#[.slice A2 x1.length c3, undef, .int .i64 m70, .int .i64 m70, (j69 0), .slice A2 x1.length c3, .int .i64 (x1.length : Int), .bool false, undef, .slice A2 x1.length c3, .pointer (some ⟨b19, of20 + (0 : Int).toNat * 1, none⟩), .int .i64 (rd x1 0), (j69 1), (j69 2), (j69 3), (j69 4), (j69 5), (j69 6), (j69 7), (j69 8), (j69 9), (j69 10), (j69 11), (j69 12), .int .i64 m70], []⟩) (by kernel_rfl) ?_
      refine wpList_nil ?_
      refine hK75 _ _ ?_
      refine wp_ret ?_
      refine hret _ _ ?_
      refine ends_still (v := Value.int .i64 m70) (by kernel_rfl) (by kernel_rfl) ?_
      injection h with h
      subst h
      exact ⟨f65, rfl, L66, HS68⟩
    clear h; have h := hv71; clear hv71
    refine loopK (fun n_ a_ w_ => ∃ (f36 : FM) (m41 : Int) (i42 : Int) (j40 : Nat → Value), FM.le f f36 ∧ St t w_ f36 (H) ∧ slices_Min_Quanta.l0 k x1 n_ m41 i42 = some o32 ∧ a_ = ⟨#[.slice A2 x1.length c3, undef, .int .i64 0, .int .i64 m41, .int .i64 i42, .slice A2 x1.length c3, .int .i64 (x1.length : Int), .bool false, undef, .slice A2 x1.length c3, .pointer (some ⟨b19, of20 + (0 : Int).toNat * 1, none⟩), .int .i64 (rd x1 0), (j40 0), (j40 1), (j40 2), (j40 3), (j40 4), (j40 5), (j40 6), (j40 7), (j40 8), (j40 9), (j40 10), (j40 11), undef], []⟩) k ⟨f, (rd x1 0), 1, (fun i_ => [undef, undef, undef, undef, undef, undef, undef, undef, undef, undef, undef, undef].getD i_ undef), (FM.le.refl _), HS, h, (by kernel_rfl)⟩ ?_
    clear h
    rintro n35 _ W38 ⟨f36, m41, i42, j40, L37, HS39, h, rfl⟩ K33 hK34
    obtain _ | n35 := n35
    · exact nomatch h
    simp only [slices_Min_Quanta.l0] at h
    refine wp_seq_k (fun K43 hK44 => ?_)
    refine wp_seq_k (fun K45 hK46 => ?_)
    refine wp_region_lit ?_
    refine seqS4 (a' := ⟨#[.slice A2 x1.length c3, undef, .int .i64 0, .int .i64 m41, .int .i64 i42, .slice A2 x1.length c3, .int .i64 (x1.length : Int), .bool false, undef, .slice A2 x1.length c3, .pointer (some ⟨b19, of20 + (0 : Int).toNat * 1, none⟩), .int .i64 (rd x1 0), .int .i64 i42, .slice A2 x1.length c3, .int .i64 (x1.length : Int), .bool (decide (i42 < (x1.length : Int))), (j40 4), (j40 5), (j40 6), (j40 7), (j40 8), (j40 9), (j40 10), (j40 11), undef], []⟩) (by kernel_rfl) ?_
    refine wpList_nil ?_
    refine hK46 _ _ ?_
    have hq_ := ite_some h; clear h; rcases hq_ with ⟨c48, h⟩ | ⟨c48, h⟩
    · have c48 : i42 < (x1.length : Int) := c48
      refine wpRwI 15 (x := (decide (i42 < (x1.length : Int)))) (v := true) (by kernel_rfl) (decide_eq_true c48) ?_
      refine condT (by kernel_rfl) ?_
      refine wp_skip ?_
      refine hK44 _ _ ?_
      refine wp_seq_k (fun K49 hK50 => ?_)
      refine blockK (fun B51 hx52 hn53 hr54 ho55 hp56 => ?_)
      refine wp_region_lit ?_
      have hq_ := guard_some h; clear h; obtain ⟨c58, h⟩ := hq_
      have c58 : 0 ≤ i42 := c58
      obtain ⟨b62, of63, cs59, hA64, hr60, hc61⟩ := (HR4.mono L37).at (i := i42) c58 c48
      obtain rfl := hr60
      refine seqL3 (by kernel_rfl) ?_
      refine seqK rfl (does_run (run_indexE hA64 (sz := 1) rfl Try.underlying28 (by kernel_rfl) (by kernel_rfl : _ = Value.slice A2 x1.length c3) (by kernel_rfl : _ = Value.int .i64 i42) c58 c48 W38) ?_)
      refine seqK rfl (does_run (run_load rfl Try.underlying42 rfl (by kernel_rfl : _ = Value.pointer (some ⟨b62, of63 + (i42 : Int).toNat * 1, none⟩)) ((hc61 (FM.le.refl _) HS39) 0 (by decide))) ?_)
      refine seqS2 (a' := ⟨#[.slice A2 x1.length c3, undef, .int .i64 0, .int .i64 (mn m41 (rd x1 i42)), .int .i64 i42, .slice A2 x1.length c3, .int .i64 (x1.length : Int), .bool false, undef, .slice A2 x1.length c3, .pointer (some ⟨b19, of20 + (0 : Int).toNat * 1, none⟩), .int .i64 (rd x1 0), .int .i64 i42, .slice A2 x1.length c3, .int .i64 (x1.length : Int), .bool true, (j40 4), (j40 5), .int .i64 m41, .slice A2 x1.length c3, .int .i64 i42, .pointer (some ⟨b62, of63 + (i42 : Int).toNat * 1, none⟩), .int .i64 (rd x1 i42), .int .i64 (mn m41 (rd x1 i42)), undef], []⟩) (by kernel_rfl) ?_
      refine wpList_nil ?_
      refine hn53 _ _ ?_
      refine hK50 _ _ ?_
      refine wp_region_lit ?_
      refine seqS3 (a' := ⟨#[.slice A2 x1.length c3, undef, .int .i64 0, .int .i64 (mn m41 (rd x1 i42)), .int .i64 (w64 (i42 + 1)), .slice A2 x1.length c3, .int .i64 (x1.length : Int), .bool false, undef, .slice A2 x1.length c3, .pointer (some ⟨b19, of20 + (0 : Int).toNat * 1, none⟩), .int .i64 (rd x1 0), .int .i64 i42, .slice A2 x1.length c3, .int .i64 (x1.length : Int), .bool true, .int .i64 i42, .int .i64 (w64 (i42 + 1)), .int .i64 m41, .slice A2 x1.length c3, .int .i64 i42, .pointer (some ⟨b62, of63 + (i42 : Int).toNat * 1, none⟩), .int .i64 (rd x1 i42), .int .i64 (mn m41 (rd x1 i42)), undef], []⟩) (by kernel_rfl) ?_
      refine wpList_nil ?_
      refine hK34 n35 _ _ (Nat.lt_succ_self _) ?_
      exact ⟨f36, (mn m41 (rd x1 i42)), (w64 (i42 + 1)), (fun i_ => [Value.int .i64 i42, Value.slice A2 x1.length c3, Value.int .i64 (x1.length : Int), Value.bool true, Value.int .i64 i42, Value.int .i64 (w64 (i42 + 1)), Value.int .i64 m41, Value.slice A2 x1.length c3, Value.int .i64 i42, Value.pointer (some ⟨b62, of63 + (i42 : Int).toNat * 1, none⟩), Value.int .i64 (rd x1 i42), Value.int .i64 (mn m41 (rd x1 i42))].getD i_ undef), L37, HS39, h, (by kernel_rfl)⟩
    · have c48 : ¬ (i42 < (x1.length : Int)) := c48
      refine wpRwI 15 (x := (decide (i42 < (x1.length : Int)))) (v := false) (by kernel_rfl) (decide_eq_false c48) ?_
      refine condF (by kernel_rfl) ?_
      refine wp_exit ?_
      refine hx27 _ _ ?_
      exact J72 f36 m41 (fun i_ => [Value.int .i64 i42, Value.int .i64 i42, Value.slice A2 x1.length c3, Value.int .i64 (x1.length : Int), Value.bool false, (j40 4), (j40 5), (j40 6), (j40 7), (j40 8), (j40 9), (j40 10), (j40 11)].getD i_ undef) W38 _ L37 h HS39 (by kernel_rfl)

set_option maxRecDepth 100000 in
set_option maxHeartbeats 4000000 in
theorem slices_Max_Quanta.calls (k : Nat) (A2 : Option Addr) (c3 : Nat) (x1 : List Int) {t w : World} {f : FM} {H : List Seg} (HS : St t w f (H)) (HR4 : SlR (tInt .i64) f A2 c3 x1) (r1 : Int) (h : slices_Max_Quanta k x1 = some r1) :
    Calls Try.prog 80 #[.slice A2 x1.length c3] w (fun e w' => ∃ (g : FM), e = .returned (Value.int .i64 r1) ∧ FM.le f g ∧ St t w' g (H)) := by
  unfold slices_Max_Quanta at h
  refine enter Try.func80 rfl (tm := #[.slice A2 x1.length c3, undef, undef, undef, undef, undef, undef, undef, undef, undef, undef, undef, undef, undef, undef, undef, undef, undef, undef, undef, undef, undef, undef, undef, undef]) (by kernel_rfl) ?_
  intro B hret hnor hnp
  refine wp_seq_k (fun K5 hK6 => ?_)
  refine wp_region_lit ?_
  refine seqS1 (a' := ⟨#[.slice A2 x1.length c3, undef, .int .i64 0, undef, undef, undef, undef, undef, undef, undef, undef, undef, undef, undef, undef, undef, undef, undef, undef, undef, undef, undef, undef, undef, undef], []⟩) (by kernel_rfl) ?_
  refine wpList_nil ?_
  refine hK6 _ _ ?_
  refine wp_seq_k (fun K7 hK8 => ?_)
  refine wp_seq_k (fun K9 hK10 => ?_)
  refine wp_region_lit ?_
  refine seqS3 (a' := ⟨#[.slice A2 x1.length c3, undef, .int .i64 0, undef, undef, .slice A2 x1.length c3, .int .i64 (x1.length : Int), .bool (decide ((x1.length : Int) < 1)), undef, undef, undef, undef, undef, undef, undef, undef, undef, undef, undef, undef, undef, undef, undef, undef, undef], []⟩) (by kernel_rfl) ?_
  refine wpList_nil ?_
  refine hK10 _ _ ?_
  have hq_ := ite_some h; clear h; rcases hq_ with ⟨c12, h⟩ | ⟨c12, h⟩
  · have c12 : (x1.length : Int) < 1 := c12
    refine wpRwI 7 (x := (decide ((x1.length : Int) < 1))) (v := true) (by kernel_rfl) (decide_eq_true c12) ?_
    refine condT (by kernel_rfl) ?_
    exact nomatch h
  · have c12 : ¬ ((x1.length : Int) < 1) := c12
    refine wpRwI 7 (x := (decide ((x1.length : Int) < 1))) (v := false) (by kernel_rfl) (decide_eq_false c12) ?_
    refine condF (by kernel_rfl) ?_
    refine wp_skip ?_
    refine hK8 _ _ ?_
    refine wp_seq_k (fun K13 hK14 => ?_)
    refine wp_region_lit ?_
    have hq_ := guard_some h; clear h; obtain ⟨c15, h⟩ := hq_
    have c15 : 0 < (x1.length : Int) := c15
    obtain ⟨b19, of20, cs16, hA21, hr17, hc18⟩ := HR4.at (i := 0) (by decide) c15
    obtain rfl := hr17
    refine seqL1 (by kernel_rfl) ?_
    refine seqK rfl (does_run (run_indexE hA21 (sz := 1) rfl Try.underlying28 (by kernel_rfl) (by kernel_rfl : _ = Value.slice A2 x1.length c3) (by kernel_rfl : _ = Value.int .i64 0) (by decide) c15 w) ?_)
    refine seqK rfl (does_run (run_load rfl Try.underlying42 rfl (by kernel_rfl : _ = Value.pointer (some ⟨b19, of20 + (0 : Int).toNat * 1, none⟩)) ((hc18 (FM.le.refl _) HS) 0 (by decide))) ?_)
    refine seqS1 (a' := ⟨#[.slice A2 x1.length c3, undef, .int .i64 0, .int .i64 (rd x1 0), undef, .slice A2 x1.length c3, .int .i64 (x1.length : Int), .bool false, undef, .slice A2 x1.length c3, .pointer (some ⟨b19, of20 + (0 : Int).toNat * 1, none⟩), .int .i64 (rd x1 0), undef, undef, undef, undef, undef, undef, undef, undef, undef, undef, undef, undef, undef], []⟩) (by kernel_rfl) ?_
    refine wpList_nil ?_
    refine hK14 _ _ ?_
    refine wp_seq_k (fun K22 hK23 => ?_)
    refine wp_seq_k (fun K24 hK25 => ?_)
    refine wp_region_lit ?_
    refine seqS1 (a' := ⟨#[.slice A2 x1.length c3, undef, .int .i64 0, .int .i64 (rd x1 0), .int .i64 1, .slice A2 x1.length c3, .int .i64 (x1.length : Int), .bool false, undef, .slice A2 x1.length c3, .pointer (some ⟨b19, of20 + (0 : Int).toNat * 1, none⟩), .int .i64 (rd x1 0), undef, undef, undef, undef, undef, undef, undef, undef, undef, undef, undef, undef, undef], []⟩) (by kernel_rfl) ?_
    refine wpList_nil ?_
    refine hK25 _ _ ?_
    refine blockK (fun B26 hx27 hn28 hr29 ho30 hp31 => ?_)
    have hq_ := bind_some h; clear h; obtain ⟨o32, hv71, h⟩ := hq_
    have J72 : ∀ (f65 : FM) (m70 : Int) (j69 : Nat → Value) (W67 : World) (a_ : Act), FM.le f f65 → some (m70) = some o32 → St t W67 f65 (H) → a_ = ⟨#[.slice A2 x1.length c3, undef, .int .i64 0, .int .i64 m70, (j69 0), .slice A2 x1.length c3, .int .i64 (x1.length : Int), .bool false, undef, .slice A2 x1.length c3, .pointer (some ⟨b19, of20 + (0 : Int).toNat * 1, none⟩), .int .i64 (rd x1 0), (j69 1), (j69 2), (j69 3), (j69 4), (j69 5), (j69 6), (j69 7), (j69 8), (j69 9), (j69 10), (j69 11), (j69 12), undef], []⟩ → K22 a_ W67 := by
      intro f65 m70 j69 W67 a_ L66 hj73 HS68  hfr_; subst hfr_
      injection hj73 with hj73; subst hj73; try dsimp only at h
      refine hK23 _ _ ?_
      refine wp_seq_k (fun K74 hK75 => ?_)
      refine wp_region_lit ?_
      refine seqS2 (a' := ⟨#[.slice A2 x1.length c3, undef, .int .i64 m70, .int .i64 m70, (j69 0), .slice A2 x1.length c3, .int .i64 (x1.length : Int), .bool false, undef, .slice A2 x1.length c3, .pointer (some ⟨b19, of20 + (0 : Int).toNat * 1, none⟩), .int .i64 (rd x1 0), (j69 1), (j69 2), (j69 3), (j69 4), (j69 5), (j69 6), (j69 7), (j69 8), (j69 9), (j69 10), (j69 11), (j69 12), .int .i64 m70], []⟩) (by kernel_rfl) ?_
      refine wpList_nil ?_
      refine hK75 _ _ ?_
      refine wp_ret ?_
      refine hret _ _ ?_
      refine ends_still (v := Value.int .i64 m70) (by kernel_rfl) (by kernel_rfl) ?_
      injection h with h
      subst h
      exact ⟨f65, rfl, L66, HS68⟩
    clear h; have h := hv71; clear hv71
    refine loopK (fun n_ a_ w_ => ∃ (f36 : FM) (m41 : Int) (i42 : Int) (j40 : Nat → Value), FM.le f f36 ∧ St t w_ f36 (H) ∧ slices_Max_Quanta.l0 k x1 n_ m41 i42 = some o32 ∧ a_ = ⟨#[.slice A2 x1.length c3, undef, .int .i64 0, .int .i64 m41, .int .i64 i42, .slice A2 x1.length c3, .int .i64 (x1.length : Int), .bool false, undef, .slice A2 x1.length c3, .pointer (some ⟨b19, of20 + (0 : Int).toNat * 1, none⟩), .int .i64 (rd x1 0), (j40 0), (j40 1), (j40 2), (j40 3), (j40 4), (j40 5), (j40 6), (j40 7), (j40 8), (j40 9), (j40 10), (j40 11), undef], []⟩) k ⟨f, (rd x1 0), 1, (fun i_ => [undef, undef, undef, undef, undef, undef, undef, undef, undef, undef, undef, undef].getD i_ undef), (FM.le.refl _), HS, h, (by kernel_rfl)⟩ ?_
    clear h
    rintro n35 _ W38 ⟨f36, m41, i42, j40, L37, HS39, h, rfl⟩ K33 hK34
    obtain _ | n35 := n35
    · exact nomatch h
    simp only [slices_Max_Quanta.l0] at h
    refine wp_seq_k (fun K43 hK44 => ?_)
    refine wp_seq_k (fun K45 hK46 => ?_)
    refine wp_region_lit ?_
    refine seqS4 (a' := ⟨#[.slice A2 x1.length c3, undef, .int .i64 0, .int .i64 m41, .int .i64 i42, .slice A2 x1.length c3, .int .i64 (x1.length : Int), .bool false, undef, .slice A2 x1.length c3, .pointer (some ⟨b19, of20 + (0 : Int).toNat * 1, none⟩), .int .i64 (rd x1 0), .int .i64 i42, .slice A2 x1.length c3, .int .i64 (x1.length : Int), .bool (decide (i42 < (x1.length : Int))), (j40 4), (j40 5), (j40 6), (j40 7), (j40 8), (j40 9), (j40 10), (j40 11), undef], []⟩) (by kernel_rfl) ?_
    refine wpList_nil ?_
    refine hK46 _ _ ?_
    have hq_ := ite_some h; clear h; rcases hq_ with ⟨c48, h⟩ | ⟨c48, h⟩
    · have c48 : i42 < (x1.length : Int) := c48
      refine wpRwI 15 (x := (decide (i42 < (x1.length : Int)))) (v := true) (by kernel_rfl) (decide_eq_true c48) ?_
      refine condT (by kernel_rfl) ?_
      refine wp_skip ?_
      refine hK44 _ _ ?_
      refine wp_seq_k (fun K49 hK50 => ?_)
      refine blockK (fun B51 hx52 hn53 hr54 ho55 hp56 => ?_)
      refine wp_region_lit ?_
      have hq_ := guard_some h; clear h; obtain ⟨c58, h⟩ := hq_
      have c58 : 0 ≤ i42 := c58
      obtain ⟨b62, of63, cs59, hA64, hr60, hc61⟩ := (HR4.mono L37).at (i := i42) c58 c48
      obtain rfl := hr60
      refine seqL3 (by kernel_rfl) ?_
      refine seqK rfl (does_run (run_indexE hA64 (sz := 1) rfl Try.underlying28 (by kernel_rfl) (by kernel_rfl : _ = Value.slice A2 x1.length c3) (by kernel_rfl : _ = Value.int .i64 i42) c58 c48 W38) ?_)
      refine seqK rfl (does_run (run_load rfl Try.underlying42 rfl (by kernel_rfl : _ = Value.pointer (some ⟨b62, of63 + (i42 : Int).toNat * 1, none⟩)) ((hc61 (FM.le.refl _) HS39) 0 (by decide))) ?_)
      refine seqS2 (a' := ⟨#[.slice A2 x1.length c3, undef, .int .i64 0, .int .i64 (mx m41 (rd x1 i42)), .int .i64 i42, .slice A2 x1.length c3, .int .i64 (x1.length : Int), .bool false, undef, .slice A2 x1.length c3, .pointer (some ⟨b19, of20 + (0 : Int).toNat * 1, none⟩), .int .i64 (rd x1 0), .int .i64 i42, .slice A2 x1.length c3, .int .i64 (x1.length : Int), .bool true, (j40 4), (j40 5), .int .i64 m41, .slice A2 x1.length c3, .int .i64 i42, .pointer (some ⟨b62, of63 + (i42 : Int).toNat * 1, none⟩), .int .i64 (rd x1 i42), .int .i64 (mx m41 (rd x1 i42)), undef], []⟩) (by kernel_rfl) ?_
      refine wpList_nil ?_
      refine hn53 _ _ ?_
      refine hK50 _ _ ?_
      refine wp_region_lit ?_
      refine seqS3 (a' := ⟨#[.slice A2 x1.length c3, undef, .int .i64 0, .int .i64 (mx m41 (rd x1 i42)), .int .i64 (w64 (i42 + 1)), .slice A2 x1.length c3, .int .i64 (x1.length : Int), .bool false, undef, .slice A2 x1.length c3, .pointer (some ⟨b19, of20 + (0 : Int).toNat * 1, none⟩), .int .i64 (rd x1 0), .int .i64 i42, .slice A2 x1.length c3, .int .i64 (x1.length : Int), .bool true, .int .i64 i42, .int .i64 (w64 (i42 + 1)), .int .i64 m41, .slice A2 x1.length c3, .int .i64 i42, .pointer (some ⟨b62, of63 + (i42 : Int).toNat * 1, none⟩), .int .i64 (rd x1 i42), .int .i64 (mx m41 (rd x1 i42)), undef], []⟩) (by kernel_rfl) ?_
      refine wpList_nil ?_
      refine hK34 n35 _ _ (Nat.lt_succ_self _) ?_
      exact ⟨f36, (mx m41 (rd x1 i42)), (w64 (i42 + 1)), (fun i_ => [Value.int .i64 i42, Value.slice A2 x1.length c3, Value.int .i64 (x1.length : Int), Value.bool true, Value.int .i64 i42, Value.int .i64 (w64 (i42 + 1)), Value.int .i64 m41, Value.slice A2 x1.length c3, Value.int .i64 i42, Value.pointer (some ⟨b62, of63 + (i42 : Int).toNat * 1, none⟩), Value.int .i64 (rd x1 i42), Value.int .i64 (mx m41 (rd x1 i42))].getD i_ undef), L37, HS39, h, (by kernel_rfl)⟩
    · have c48 : ¬ (i42 < (x1.length : Int)) := c48
      refine wpRwI 15 (x := (decide (i42 < (x1.length : Int)))) (v := false) (by kernel_rfl) (decide_eq_false c48) ?_
      refine condF (by kernel_rfl) ?_
      refine wp_exit ?_
      refine hx27 _ _ ?_
      exact J72 f36 m41 (fun i_ => [Value.int .i64 i42, Value.int .i64 i42, Value.slice A2 x1.length c3, Value.int .i64 (x1.length : Int), Value.bool false, (j40 4), (j40 5), (j40 6), (j40 7), (j40 8), (j40 9), (j40 10), (j40 11)].getD i_ undef) W38 _ L37 h HS39 (by kernel_rfl)

set_option maxRecDepth 100000 in
set_option maxHeartbeats 4000000 in
theorem bound_Fuse_Quanta.calls (k : Nat) (A2 : Option Addr) (c3 : Nat) (l1 : List S_Bound) (vf5 : Int) {t w : World} {f : FM} {H : List Seg} (HS : St t w f (H)) (HR4 : SlR ty_Bound f A2 c3 l1) (r1 : S_Bound) (h : bound_Fuse_Quanta k l1 vf5 = some r1) :
    Calls Try.prog 41 #[.slice A2 l1.length c3, .int .i64 vf5] w (fun e w' => ∃ (g : FM), e = .returned (Value.agg #[.int .i64 r1.Lo, .int .i64 r1.Hi, .bool r1.Unknown]) ∧ FM.le f g ∧ St t w' g (H)) := by
  unfold bound_Fuse_Quanta at h
  refine enter Try.func41 rfl (tm := #[.slice A2 l1.length c3, .int .i64 vf5, undef, undef, undef, undef, undef, undef, undef, undef, undef, undef, undef, undef, undef, undef, undef, undef, undef, undef, undef, undef, undef, undef, undef, undef, undef, undef, undef, undef, undef, undef, undef, undef, undef, undef, undef, undef, undef, undef, undef, undef, undef, undef, undef, undef, undef, undef, undef, undef, undef, undef, undef]) (by kernel_rfl) ?_
  intro B hret hnor hnp
  refine wp_seq_k (fun K6 hK7 => ?_)
  refine wp_region_lit ?_
  refine seqK rfl (does_box (cs := #[.slice A2 l1.length c3]) rfl (by kernel_rfl : _ = Value.slice A2 l1.length c3) rfl HS ?_)
  intro b8 W9 HS10
  refine seqK rfl (does_alloc (z := Value.agg #[.int .i64 0, .int .i64 0, .bool false]) (cs := #[.int .i64 0, .int .i64 0, .bool false]) rfl (by kernel_rfl) rfl HS10 ?_)
  intro b12 W13 HS14
  refine wpList_nil ?_
  refine hK7 _ _ ?_
  refine wp_seq_k (fun K16 hK17 => ?_)
  refine wp_region_lit ?_
  refine seqS1 (a' := ⟨#[.slice A2 l1.length c3, .int .i64 vf5, .pointer (some ⟨b8, 0, none⟩), undef, .pointer (some ⟨b12, 0, none⟩), .slice none 0 0, undef, undef, undef, undef, undef, undef, undef, undef, undef, undef, undef, undef, undef, undef, undef, undef, undef, undef, undef, undef, undef, undef, undef, undef, undef, undef, undef, undef, undef, undef, undef, undef, undef, undef, undef, undef, undef, undef, undef, undef, undef, undef, undef, undef, undef, undef, undef], []⟩) (by kernel_rfl) ?_
  refine wpList_nil ?_
  refine hK17 _ _ ?_
  refine wp_seq_k (fun K18 hK19 => ?_)
  refine wp_seq_k (fun K20 hK21 => ?_)
  refine wp_region_lit ?_
  refine seqK rfl (does_run (run_load rfl Try.underlying32 rfl (by kernel_rfl : _ = Value.pointer (some ⟨b8, 0, none⟩)) (HS14.u1.cell 0)) ?_)
  refine seqS2 (a' := ⟨#[.slice A2 l1.length c3, .int .i64 vf5, .pointer (some ⟨b8, 0, none⟩), undef, .pointer (some ⟨b12, 0, none⟩), .slice none 0 0, undef, undef, undef, undef, .slice A2 l1.length c3, .int .i64 (l1.length : Int), .int .i64 0, undef, undef, undef, undef, undef, undef, undef, undef, undef, undef, undef, undef, undef, undef, undef, undef, undef, undef, undef, undef, undef, undef, undef, undef, undef, undef, undef, undef, undef, undef, undef, undef, undef, undef, undef, undef, undef, undef, undef, undef], []⟩) (by kernel_rfl) ?_
  refine wpList_nil ?_
  refine hK21 _ _ ?_
  refine blockK (fun B22 hx23 hn24 hr25 ho26 hp27 => ?_)
  have hq_ := bind_some h; clear h; obtain ⟨o28, hv110, h⟩ := hq_
  have J111 : ∀ (f99 : FM) (A105 : Option Addr) (c106 : Nat) (s107 : Seg) (ends104 : List Int) (j103 : Nat → Value) (W101 : World) (a_ : Act), FM.le f f99 → some (ends104) = some o28 → St t W101 f99 (s107 :: [(b12, .cells #[.int .i64 0, .int .i64 0, .bool false] 44 (0, 0))] :: [(b8, .cells #[.slice A2 l1.length c3] 32 (0, 0))] :: H) → Own (tInt .i64) 42 f99 A105 c106 s107 ends104 → a_ = ⟨#[.slice A2 l1.length c3, .int .i64 vf5, .pointer (some ⟨b8, 0, none⟩), undef, .pointer (some ⟨b12, 0, none⟩), .slice A105 ends104.length c106, undef, (j103 0), undef, undef, .slice A2 l1.length c3, .int .i64 (l1.length : Int), (j103 1), (j103 2), (j103 3), (j103 4), (j103 5), (j103 6), (j103 7), (j103 8), (j103 9), (j103 10), (j103 11), (j103 12), (j103 13), (j103 14), (j103 15), (j103 16), undef, undef, undef, undef, undef, undef, undef, undef, undef, undef, undef, undef, undef, undef, undef, undef, undef, undef, undef, undef, undef, undef, undef, undef, undef], []⟩ → K18 a_ W101 := by
    intro f99 A105 c106 s107 ends104 j103 W101 a_ L100 hj112 HS102 HO108 hfr_; subst hfr_
    injection hj112 with hj112; subst hj112; try dsimp only at h
    refine hK19 _ _ ?_
    refine wp_seq_k (fun K125 hK126 => ?_)
    refine wp_region_lit ?_
    refine seqL5 (by kernel_rfl) ?_
    refine seqK rfl (does_alloc (z := Value.int .i64 0) (cs := #[.int .i64 0]) rfl (by kernel_rfl) rfl HS102 ?_)
    intro b127 W128 HS129
    refine seqK rfl (does_store (n := 1) (vs := [.int .i64 (w64 ((w64 (Int.tdiv (ends104.length : Int) 2)) - vf5))]) (cs' := #[.int .i64 (w64 ((w64 (Int.tdiv (ends104.length : Int) 2)) - vf5))]) rfl (by kernel_rfl) (by kernel_rfl : _ = Value.pointer (some ⟨b127, 0, none⟩)) (by kernel_rfl : _ = Value.int .i64 (w64 ((w64 (Int.tdiv (ends104.length : Int) 2)) - vf5))) rfl rfl (by intro u_ hu_; simp only [List.mem_cons, List.not_mem_nil, or_false] at hu_; subst hu_; rfl) HS129 (Nat.le_of_ble_eq_true rfl) (by kernel_rfl) ?_)
    intro W131 HS132
    refine wpList_nil ?_
    refine hK126 _ _ ?_
    refine wp_seq_k (fun K133 hK134 => ?_)
    refine wp_seq_k (fun K135 hK136 => ?_)
    refine wp_region_lit ?_
    refine seqS3 (a' := ⟨#[.slice A2 l1.length c3, .int .i64 vf5, .pointer (some ⟨b8, 0, none⟩), undef, .pointer (some ⟨b12, 0, none⟩), .slice A105 ends104.length c106, undef, (j103 0), .pointer (some ⟨b127, 0, none⟩), undef, .slice A2 l1.length c3, .int .i64 (l1.length : Int), (j103 1), (j103 2), (j103 3), (j103 4), (j103 5), (j103 6), (j103 7), (j103 8), (j103 9), (j103 10), (j103 11), (j103 12), (j103 13), (j103 14), (j103 15), (j103 16), .slice A105 ends104.length c106, .int .i64 (ends104.length : Int), .int .i64 (w64 (Int.tdiv (ends104.length : Int) 2)), .int .i64 vf5, .int .i64 (w64 ((w64 (Int.tdiv (ends104.length : Int) 2)) - vf5)), .int .i64 vf5, .bool (decide (vf5 < 0)), .bool (decide (vf5 < 0)), undef, undef, undef, undef, undef, undef, undef, undef, undef, undef, undef, undef, undef, undef, undef, undef, undef], []⟩) (by kernel_rfl) ?_
    have hq_ := ite_some h; clear h; rcases hq_ with ⟨c137, h⟩ | ⟨c137, h⟩
    · have c137 : vf5 < 0 := c137
      refine seqRwI 34 (x := (decide (vf5 < 0))) (v := true) (by kernel_rfl) (decide_eq_true c137) ?_
      refine seqRwI 35 (x := (decide (vf5 < 0))) (v := true) (by kernel_rfl) (decide_eq_true c137) ?_
      refine seqS3 (a' := ⟨#[.slice A2 l1.length c3, .int .i64 vf5, .pointer (some ⟨b8, 0, none⟩), undef, .pointer (some ⟨b12, 0, none⟩), .slice A105 ends104.length c106, undef, (j103 0), .pointer (some ⟨b127, 0, none⟩), undef, .slice A2 l1.length c3, .int .i64 (l1.length : Int), (j103 1), (j103 2), (j103 3), (j103 4), (j103 5), (j103 6), (j103 7), (j103 8), (j103 9), (j103 10), (j103 11), (j103 12), (j103 13), (j103 14), (j103 15), (j103 16), .slice A105 ends104.length c106, .int .i64 (ends104.length : Int), .int .i64 (w64 (Int.tdiv (ends104.length : Int) 2)), .int .i64 vf5, .int .i64 (w64 ((w64 (Int.tdiv (ends104.length : Int) 2)) - vf5)), .int .i64 vf5, .bool true, .bool true, undef, undef, .bool true, undef, undef, undef, undef, undef, undef, undef, undef, undef, undef, undef, undef, undef, undef], []⟩) (by kernel_rfl) ?_
      refine wpList_nil ?_
      refine hK136 _ _ ?_
      refine condT (by kernel_rfl) ?_
      refine wp_seq_k (fun K138 hK139 => ?_)
      refine wp_region_lit ?_
      have hq_ := bind_some h; clear h; obtain ⟨vt140, hc141, h⟩ := hq_
      refine seqK rfl (does_call (f := 32) (args := #[]) (by kernel_rfl) (bound_None_Quanta.calls k  HS132 vt140 hc141) ?_)
      rintro _ W144 ⟨f142, rfl, L143, HS145⟩
      refine ⟨_, rfl, ?_⟩
      have HS146 := HS145.u2
      refine seqK rfl (does_store (n := 3) (vs := [.int .i64 vt140.Lo, .int .i64 vt140.Hi, .bool vt140.Unknown]) (cs' := #[.int .i64 vt140.Lo, .int .i64 vt140.Hi, .bool vt140.Unknown]) rfl (by kernel_rfl) (by kernel_rfl : _ = Value.pointer (some ⟨b12, 0, none⟩)) (by kernel_rfl : _ = Value.agg #[.int .i64 vt140.Lo, .int .i64 vt140.Hi, .bool vt140.Unknown]) rfl rfl (by intro u_ hu_; simp only [List.mem_cons, List.not_mem_nil, or_false] at hu_; rcases hu_ with rfl | rfl | rfl <;> rfl) HS146 (Nat.le_of_ble_eq_true rfl) (by kernel_rfl) ?_)
      intro W147 HS148
      refine wpList_nil ?_
      refine hK139 _ _ ?_
      refine wp_ret ?_
      refine hret _ _ ?_
      refine ends (v := Value.agg #[.int .i64 vt140.Lo, .int .i64 vt140.Hi, .bool vt140.Unknown]) (results1 (q1 := .cell 4 44) (by kernel_rfl) (resN (n := 3) (cs := [.int .i64 vt140.Lo, .int .i64 vt140.Hi, .bool vt140.Unknown]) (by kernel_rfl : _ = Value.pointer (some ⟨b12, 0, none⟩)) Try.underlying44 rfl (by kernel_rfl) rfl (HS148.cells 0 3 _ rfl))) (by kernel_rfl) ?_
      have HS236 := HS148.drop
      have HS237 := HS236.drop
      have HS238 := HS237.drop
      have HS239 := HS238.drop
      injection h with h
      subst h
      exact ⟨f142, rfl, (L100.trans L143), HS239⟩
    · have c137 : ¬ (vf5 < 0) := c137
      refine seqRwI 34 (x := (decide (vf5 < 0))) (v := false) (by kernel_rfl) (decide_eq_false c137) ?_
      refine seqRwI 35 (x := (decide (vf5 < 0))) (v := false) (by kernel_rfl) (decide_eq_false c137) ?_
      refine seqG (by kernel_rfl) (does_run (run_load rfl Try.underlying3 rfl (by kernel_rfl : _ = Value.pointer (some ⟨b127, 0, none⟩)) (HS132.cell 0)) ?_)
      refine seqS2 (a' := ⟨#[.slice A2 l1.length c3, .int .i64 vf5, .pointer (some ⟨b8, 0, none⟩), undef, .pointer (some ⟨b12, 0, none⟩), .slice A105 ends104.length c106, undef, (j103 0), .pointer (some ⟨b127, 0, none⟩), undef, .slice A2 l1.length c3, .int .i64 (l1.length : Int), (j103 1), (j103 2), (j103 3), (j103 4), (j103 5), (j103 6), (j103 7), (j103 8), (j103 9), (j103 10), (j103 11), (j103 12), (j103 13), (j103 14), (j103 15), (j103 16), .slice A105 ends104.length c106, .int .i64 (ends104.length : Int), .int .i64 (w64 (Int.tdiv (ends104.length : Int) 2)), .int .i64 vf5, .int .i64 (w64 ((w64 (Int.tdiv (ends104.length : Int) 2)) - vf5)), .int .i64 vf5, .bool false, .bool false, .int .i64 (w64 ((w64 (Int.tdiv (ends104.length : Int) 2)) - vf5)), .bool (decide ((w64 ((w64 (Int.tdiv (ends104.length : Int) 2)) - vf5)) ≤ 0)), .bool (decide ((w64 ((w64 (Int.tdiv (ends104.length : Int) 2)) - vf5)) ≤ 0)), undef, undef, undef, undef, undef, undef, undef, undef, undef, undef, undef, undef, undef, undef], []⟩) (by kernel_rfl) ?_
      refine wpList_nil ?_
      refine hK136 _ _ ?_
      have hq_ := ite_some h; clear h; rcases hq_ with ⟨c150, h⟩ | ⟨c150, h⟩
      · have c150 : (w64 ((w64 (Int.tdiv (ends104.length : Int) 2)) - vf5)) ≤ 0 := c150
        refine wpRwI 37 (x := (decide ((w64 ((w64 (Int.tdiv (ends104.length : Int) 2)) - vf5)) ≤ 0))) (v := true) (by kernel_rfl) (decide_eq_true c150) ?_
        refine wpRwI 38 (x := (decide ((w64 ((w64 (Int.tdiv (ends104.length : Int) 2)) - vf5)) ≤ 0))) (v := true) (by kernel_rfl) (decide_eq_true c150) ?_
        refine condT (by kernel_rfl) ?_
        refine wp_seq_k (fun K151 hK152 => ?_)
        refine wp_region_lit ?_
        have hq_ := bind_some h; clear h; obtain ⟨vt153, hc154, h⟩ := hq_
        refine seqK rfl (does_call (f := 32) (args := #[]) (by kernel_rfl) (bound_None_Quanta.calls k  HS132 vt153 hc154) ?_)
        rintro _ W157 ⟨f155, rfl, L156, HS158⟩
        refine ⟨_, rfl, ?_⟩
        have HS159 := HS158.u2
        refine seqK rfl (does_store (n := 3) (vs := [.int .i64 vt153.Lo, .int .i64 vt153.Hi, .bool vt153.Unknown]) (cs' := #[.int .i64 vt153.Lo, .int .i64 vt153.Hi, .bool vt153.Unknown]) rfl (by kernel_rfl) (by kernel_rfl : _ = Value.pointer (some ⟨b12, 0, none⟩)) (by kernel_rfl : _ = Value.agg #[.int .i64 vt153.Lo, .int .i64 vt153.Hi, .bool vt153.Unknown]) rfl rfl (by intro u_ hu_; simp only [List.mem_cons, List.not_mem_nil, or_false] at hu_; rcases hu_ with rfl | rfl | rfl <;> rfl) HS159 (Nat.le_of_ble_eq_true rfl) (by kernel_rfl) ?_)
        intro W160 HS161
        refine wpList_nil ?_
        refine hK152 _ _ ?_
        refine wp_ret ?_
        refine hret _ _ ?_
        refine ends (v := Value.agg #[.int .i64 vt153.Lo, .int .i64 vt153.Hi, .bool vt153.Unknown]) (results1 (q1 := .cell 4 44) (by kernel_rfl) (resN (n := 3) (cs := [.int .i64 vt153.Lo, .int .i64 vt153.Hi, .bool vt153.Unknown]) (by kernel_rfl : _ = Value.pointer (some ⟨b12, 0, none⟩)) Try.underlying44 rfl (by kernel_rfl) rfl (HS161.cells 0 3 _ rfl))) (by kernel_rfl) ?_
        have HS240 := HS161.drop
        have HS241 := HS240.drop
        have HS242 := HS241.drop
        have HS243 := HS242.drop
        injection h with h
        subst h
        exact ⟨f155, rfl, (L100.trans L156), HS243⟩
      · have c150 : ¬ ((w64 ((w64 (Int.tdiv (ends104.length : Int) 2)) - vf5)) ≤ 0) := c150
        refine wpRwI 37 (x := (decide ((w64 ((w64 (Int.tdiv (ends104.length : Int) 2)) - vf5)) ≤ 0))) (v := false) (by kernel_rfl) (decide_eq_false c150) ?_
        refine wpRwI 38 (x := (decide ((w64 ((w64 (Int.tdiv (ends104.length : Int) 2)) - vf5)) ≤ 0))) (v := false) (by kernel_rfl) (decide_eq_false c150) ?_
        refine condF (by kernel_rfl) ?_
        refine wp_skip ?_
        refine hK134 _ _ ?_
        refine wp_seq_k (fun K162 hK163 => ?_)
        refine wp_region_lit ?_
        refine seqS2 (a' := ⟨#[.slice A2 l1.length c3, .int .i64 vf5, .pointer (some ⟨b8, 0, none⟩), undef, .pointer (some ⟨b12, 0, none⟩), .slice A105 ends104.length c106, undef, (j103 0), .pointer (some ⟨b127, 0, none⟩), .func (.func 76) #[] #[.pointer (some ⟨b8, 0, none⟩), .pointer (some ⟨b127, 0, none⟩)], .slice A2 l1.length c3, .int .i64 (l1.length : Int), (j103 1), (j103 2), (j103 3), (j103 4), (j103 5), (j103 6), (j103 7), (j103 8), (j103 9), (j103 10), (j103 11), (j103 12), (j103 13), (j103 14), (j103 15), (j103 16), .slice A105 ends104.length c106, .int .i64 (ends104.length : Int), .int .i64 (w64 (Int.tdiv (ends104.length : Int) 2)), .int .i64 vf5, .int .i64 (w64 ((w64 (Int.tdiv (ends104.length : Int) 2)) - vf5)), .int .i64 vf5, .bool false, .bool false, .int .i64 (w64 ((w64 (Int.tdiv (ends104.length : Int) 2)) - vf5)), .bool false, .bool false, undef, .func (.func 76) #[] #[.pointer (some ⟨b8, 0, none⟩), .pointer (some ⟨b127, 0, none⟩)], undef, undef, undef, undef, undef, undef, undef, undef, undef, undef, undef, undef], []⟩) (by kernel_rfl) ?_
        refine wpList_nil ?_
        refine hK163 _ _ ?_
        refine wp_seq_k (fun K164 hK165 => ?_)
        refine wp_seq_k (fun K166 hK167 => ?_)
        refine wp_region_lit ?_
        have HS168 := HS132.u1
        have HS169 := HS168.u1
        have HS170 := HS169.u3
        have hq_ := bind_some h; clear h; obtain ⟨vt171, hc172, h⟩ := hq_
        refine seqL2 (by kernel_rfl) ?_
        refine seqK rfl (does_call (f := 78) (args := #[.slice A105 ends104.length c106, .func (.func 76) #[] #[.pointer (some ⟨b8, 0, none⟩), .pointer (some ⟨b127, 0, none⟩)]]) (by kernel_rfl) (slices_DeleteFunc_Quanta__bound_Fuse_Quanta_1.calls k b8 A2 c3 b127 A105 c106 s107 l1 (w64 ((w64 (Int.tdiv (ends104.length : Int) 2)) - vf5)) ends104 HS170 (HR4.mono L100) HO108 vt171 hc172) ?_)
        rintro _ W175 ⟨f173, A177, c178, s179, rfl, L174, HS176, HO180⟩
        refine ⟨_, rfl, ?_⟩
        refine seqS1 (a' := ⟨#[.slice A2 l1.length c3, .int .i64 vf5, .pointer (some ⟨b8, 0, none⟩), undef, .pointer (some ⟨b12, 0, none⟩), .slice A177 vt171.length c178, undef, (j103 0), .pointer (some ⟨b127, 0, none⟩), .func (.func 76) #[] #[.pointer (some ⟨b8, 0, none⟩), .pointer (some ⟨b127, 0, none⟩)], .slice A2 l1.length c3, .int .i64 (l1.length : Int), (j103 1), (j103 2), (j103 3), (j103 4), (j103 5), (j103 6), (j103 7), (j103 8), (j103 9), (j103 10), (j103 11), (j103 12), (j103 13), (j103 14), (j103 15), (j103 16), .slice A105 ends104.length c106, .int .i64 (ends104.length : Int), .int .i64 (w64 (Int.tdiv (ends104.length : Int) 2)), .int .i64 vf5, .int .i64 (w64 ((w64 (Int.tdiv (ends104.length : Int) 2)) - vf5)), .int .i64 vf5, .bool false, .bool false, .int .i64 (w64 ((w64 (Int.tdiv (ends104.length : Int) 2)) - vf5)), .bool false, .bool false, undef, .func (.func 76) #[] #[.pointer (some ⟨b8, 0, none⟩), .pointer (some ⟨b127, 0, none⟩)], .slice A105 ends104.length c106, .func (.func 76) #[] #[.pointer (some ⟨b8, 0, none⟩), .pointer (some ⟨b127, 0, none⟩)], .slice A177 vt171.length c178, undef, undef, undef, undef, undef, undef, undef, undef, undef], []⟩) (by kernel_rfl) ?_
        refine wpList_nil ?_
        refine hK167 _ _ ?_
        refine wp_seq_k (fun K182 hK183 => ?_)
        refine wp_region_lit ?_
        refine seqS3 (a' := ⟨#[.slice A2 l1.length c3, .int .i64 vf5, .pointer (some ⟨b8, 0, none⟩), undef, .pointer (some ⟨b12, 0, none⟩), .slice A177 vt171.length c178, undef, (j103 0), .pointer (some ⟨b127, 0, none⟩), .func (.func 76) #[] #[.pointer (some ⟨b8, 0, none⟩), .pointer (some ⟨b127, 0, none⟩)], .slice A2 l1.length c3, .int .i64 (l1.length : Int), (j103 1), (j103 2), (j103 3), (j103 4), (j103 5), (j103 6), (j103 7), (j103 8), (j103 9), (j103 10), (j103 11), (j103 12), (j103 13), (j103 14), (j103 15), (j103 16), .slice A105 ends104.length c106, .int .i64 (ends104.length : Int), .int .i64 (w64 (Int.tdiv (ends104.length : Int) 2)), .int .i64 vf5, .int .i64 (w64 ((w64 (Int.tdiv (ends104.length : Int) 2)) - vf5)), .int .i64 vf5, .bool false, .bool false, .int .i64 (w64 ((w64 (Int.tdiv (ends104.length : Int) 2)) - vf5)), .bool false, .bool false, undef, .func (.func 76) #[] #[.pointer (some ⟨b8, 0, none⟩), .pointer (some ⟨b127, 0, none⟩)], .slice A105 ends104.length c106, .func (.func 76) #[] #[.pointer (some ⟨b8, 0, none⟩), .pointer (some ⟨b127, 0, none⟩)], .slice A177 vt171.length c178, .slice A177 vt171.length c178, .int .i64 (vt171.length : Int), .bool ((vt171.length : Int) == 0), undef, undef, undef, undef, undef, undef], []⟩) (by kernel_rfl) ?_
        refine wpList_nil ?_
        refine hK183 _ _ ?_
        have hq_ := ite_some h; clear h; rcases hq_ with ⟨c185, h⟩ | ⟨c185, h⟩
        · have c185 : (vt171.length : Int) = 0 := c185
          refine wpRwI 46 (x := ((vt171.length : Int) == 0)) (v := true) (by kernel_rfl) (beq_iff_eq.mpr c185) ?_
          refine condT (by kernel_rfl) ?_
          refine wp_seq_k (fun K186 hK187 => ?_)
          refine wp_region_lit ?_
          have hq_ := bind_some h; clear h; obtain ⟨vt188, hc189, h⟩ := hq_
          refine seqK rfl (does_call (f := 32) (args := #[]) (by kernel_rfl) (bound_None_Quanta.calls k  HS176 vt188 hc189) ?_)
          rintro _ W192 ⟨f190, rfl, L191, HS193⟩
          refine ⟨_, rfl, ?_⟩
          have HS194 := HS193.u3
          refine seqK rfl (does_store (n := 3) (vs := [.int .i64 vt188.Lo, .int .i64 vt188.Hi, .bool vt188.Unknown]) (cs' := #[.int .i64 vt188.Lo, .int .i64 vt188.Hi, .bool vt188.Unknown]) rfl (by kernel_rfl) (by kernel_rfl : _ = Value.pointer (some ⟨b12, 0, none⟩)) (by kernel_rfl : _ = Value.agg #[.int .i64 vt188.Lo, .int .i64 vt188.Hi, .bool vt188.Unknown]) rfl rfl (by intro u_ hu_; simp only [List.mem_cons, List.not_mem_nil, or_false] at hu_; rcases hu_ with rfl | rfl | rfl <;> rfl) HS194 (Nat.le_of_ble_eq_true rfl) (by kernel_rfl) ?_)
          intro W195 HS196
          refine wpList_nil ?_
          refine hK187 _ _ ?_
          refine wp_ret ?_
          refine hret _ _ ?_
          refine ends (v := Value.agg #[.int .i64 vt188.Lo, .int .i64 vt188.Hi, .bool vt188.Unknown]) (results1 (q1 := .cell 4 44) (by kernel_rfl) (resN (n := 3) (cs := [.int .i64 vt188.Lo, .int .i64 vt188.Hi, .bool vt188.Unknown]) (by kernel_rfl : _ = Value.pointer (some ⟨b12, 0, none⟩)) Try.underlying44 rfl (by kernel_rfl) rfl (HS196.cells 0 3 _ rfl))) (by kernel_rfl) ?_
          have HS244 := HS196.drop
          have HS245 := HS244.drop
          have HS246 := HS245.drop
          have HS247 := HS246.drop
          injection h with h
          subst h
          exact ⟨f190, rfl, (L100.trans (L174.trans L191)), HS247⟩
        · have c185 : ¬ ((vt171.length : Int) = 0) := c185
          refine wpRwI 46 (x := ((vt171.length : Int) == 0)) (v := false) (by kernel_rfl) (beq_eq_false_iff_ne.mpr c185) ?_
          refine condF (by kernel_rfl) ?_
          refine wp_skip ?_
          refine hK165 _ _ ?_
          refine wp_seq_k (fun K197 hK198 => ?_)
          refine wp_region_lit ?_
          obtain ⟨f199, L200, HS201, HR202, th203⟩ := HO180.lend HS176
          have hq_ := bind_some h; clear h; obtain ⟨vt204, hc205, h⟩ := hq_
          refine seqL1 (by kernel_rfl) ?_
          refine seqK rfl (does_call (f := 79) (args := #[.slice A177 vt171.length c178]) (by kernel_rfl) (slices_Min_Quanta.calls k A177 c178 vt171 HS201 HR202 vt204 hc205) ?_)
          rintro _ W208 ⟨f206, rfl, L207, HS209⟩
          refine ⟨_, rfl, ?_⟩
          obtain ⟨f210, L211, HS212⟩ := th203 L207 HS209
          obtain ⟨f213, L214, HS215, HR216, th217⟩ := (HO180.mono L211).lend HS212
          have hq_ := bind_some h; clear h; obtain ⟨vt218, hc219, h⟩ := hq_
          refine seqL1 (by kernel_rfl) ?_
          refine seqK rfl (does_call (f := 80) (args := #[.slice A177 vt171.length c178]) (by kernel_rfl) (slices_Max_Quanta.calls k A177 c178 vt171 HS215 HR216 vt218 hc219) ?_)
          rintro _ W222 ⟨f220, rfl, L221, HS223⟩
          refine ⟨_, rfl, ?_⟩
          obtain ⟨f224, L225, HS226⟩ := th217 L221 HS223
          have hq_ := bind_some h; clear h; obtain ⟨vt227, hc228, h⟩ := hq_
          refine seqK rfl (does_call (f := 22) (args := #[.int .i64 vt204, .int .i64 vt218]) (by kernel_rfl) (bound_Of_Quanta.calls k vt204 vt218 HS226 vt227 hc228) ?_)
          rintro _ W231 ⟨f229, rfl, L230, HS232⟩
          refine ⟨_, rfl, ?_⟩
          have HS233 := HS232.u3
          refine seqK rfl (does_store (n := 3) (vs := [.int .i64 vt227.Lo, .int .i64 vt227.Hi, .bool vt227.Unknown]) (cs' := #[.int .i64 vt227.Lo, .int .i64 vt227.Hi, .bool vt227.Unknown]) rfl (by kernel_rfl) (by kernel_rfl : _ = Value.pointer (some ⟨b12, 0, none⟩)) (by kernel_rfl : _ = Value.agg #[.int .i64 vt227.Lo, .int .i64 vt227.Hi, .bool vt227.Unknown]) rfl rfl (by intro u_ hu_; simp only [List.mem_cons, List.not_mem_nil, or_false] at hu_; rcases hu_ with rfl | rfl | rfl <;> rfl) HS233 (Nat.le_of_ble_eq_true rfl) (by kernel_rfl) ?_)
          intro W234 HS235
          refine wpList_nil ?_
          refine hK198 _ _ ?_
          refine wp_ret ?_
          refine hret _ _ ?_
          refine ends (v := Value.agg #[.int .i64 vt227.Lo, .int .i64 vt227.Hi, .bool vt227.Unknown]) (results1 (q1 := .cell 4 44) (by kernel_rfl) (resN (n := 3) (cs := [.int .i64 vt227.Lo, .int .i64 vt227.Hi, .bool vt227.Unknown]) (by kernel_rfl : _ = Value.pointer (some ⟨b12, 0, none⟩)) Try.underlying44 rfl (by kernel_rfl) rfl (HS235.cells 0 3 _ rfl))) (by kernel_rfl) ?_
          have HS248 := HS235.drop
          have HS249 := HS248.drop
          have HS250 := HS249.drop
          have HS251 := HS250.drop
          injection h with h
          subst h
          exact ⟨f229, rfl, (L100.trans (L174.trans (L211.trans (L225.trans L230)))), HS251⟩
  clear h; have h := hv110; clear hv110
  have HS113 := HS14.cons_nil
  refine loopK (fun n_ a_ w_ => ∃ (f32 : FM) (A38 : Option Addr) (c39 : Nat) (s40 : Seg) (ends37 : List Int) (x43 : Int) (j36 : Nat → Value), FM.le f f32 ∧ St t w_ f32 (s40 :: [(b12, .cells #[.int .i64 0, .int .i64 0, .bool false] 44 (0, 0))] :: [(b8, .cells #[.slice A2 l1.length c3] 32 (0, 0))] :: H) ∧ Own (tInt .i64) 42 f32 A38 c39 s40 ends37 ∧ bound_Fuse_Quanta.l0 k l1 n_ ends37 x43 = some o28 ∧ a_ = ⟨#[.slice A2 l1.length c3, .int .i64 vf5, .pointer (some ⟨b8, 0, none⟩), undef, .pointer (some ⟨b12, 0, none⟩), .slice A38 ends37.length c39, undef, (j36 0), undef, undef, .slice A2 l1.length c3, .int .i64 (l1.length : Int), .int .i64 x43, (j36 1), (j36 2), (j36 3), (j36 4), (j36 5), (j36 6), (j36 7), (j36 8), (j36 9), (j36 10), (j36 11), (j36 12), (j36 13), (j36 14), (j36 15), undef, undef, undef, undef, undef, undef, undef, undef, undef, undef, undef, undef, undef, undef, undef, undef, undef, undef, undef, undef, undef, undef, undef, undef, undef], []⟩) k ⟨f, none, 0, [], ([] : List Int), 0, (fun i_ => [undef, undef, undef, undef, undef, undef, undef, undef, undef, undef, undef, undef, undef, undef, undef, undef].getD i_ undef), (FM.le.refl _), HS113, (Own.nil _), h, (by kernel_rfl)⟩ ?_
  clear h
  rintro n31 _ W34 ⟨f32, A38, c39, s40, ends37, x43, j36, L33, HS35, HO41, h, rfl⟩ K29 hK30
  obtain _ | n31 := n31
  · exact nomatch h
  simp only [bound_Fuse_Quanta.l0] at h
  refine wp_seq_k (fun K44 hK45 => ?_)
  refine wp_region_lit ?_
  refine seqS1 (a' := ⟨#[.slice A2 l1.length c3, .int .i64 vf5, .pointer (some ⟨b8, 0, none⟩), undef, .pointer (some ⟨b12, 0, none⟩), .slice A38 ends37.length c39, undef, (j36 0), undef, undef, .slice A2 l1.length c3, .int .i64 (l1.length : Int), .int .i64 x43, .bool (decide (x43 < (l1.length : Int))), (j36 2), (j36 3), (j36 4), (j36 5), (j36 6), (j36 7), (j36 8), (j36 9), (j36 10), (j36 11), (j36 12), (j36 13), (j36 14), (j36 15), undef, undef, undef, undef, undef, undef, undef, undef, undef, undef, undef, undef, undef, undef, undef, undef, undef, undef, undef, undef, undef, undef, undef, undef, undef], []⟩) (by kernel_rfl) ?_
  refine wpList_nil ?_
  refine hK45 _ _ ?_
  refine wp_seq_k (fun K46 hK47 => ?_)
  have hq_ := ite_some h; clear h; rcases hq_ with ⟨c49, h⟩ | ⟨c49, h⟩
  · have c49 : x43 < (l1.length : Int) := c49
    refine wpRwI 13 (x := (decide (x43 < (l1.length : Int)))) (v := true) (by kernel_rfl) (decide_eq_true c49) ?_
    refine condT (by kernel_rfl) ?_
    refine wp_skip ?_
    refine hK47 _ _ ?_
    refine wp_seq_k (fun K50 hK51 => ?_)
    refine blockK (fun B52 hx53 hn54 hr55 ho56 hp57 => ?_)
    refine wp_seq_k (fun K59 hK60 => ?_)
    refine wp_region_lit ?_
    have hq_ := guard_some h; clear h; obtain ⟨c61, h⟩ := hq_
    have c61 : 0 ≤ x43 := c61
    obtain ⟨b65, of66, cs62, hA67, hr63, hc64⟩ := (HR4.mono L33).at (i := x43) c61 c49
    obtain rfl := hr63
    refine seqK rfl (does_run (run_indexE hA67 (sz := 3) rfl Try.underlying32 (by kernel_rfl) (by kernel_rfl : _ = Value.slice A2 l1.length c3) (by kernel_rfl : _ = Value.int .i64 x43) c61 c49 W34) ?_)
    refine seqK rfl (does_run (run_loadN (n := 3) rfl Try.underlying44 rfl (by kernel_rfl) (by kernel_rfl : _ = Value.pointer (some ⟨b65, of66 + (x43 : Int).toNat * 3, none⟩)) (cs := [.int .i64 ((rd l1 x43).Lo), .int .i64 ((rd l1 x43).Hi), .bool ((rd l1 x43).Unknown)]) rfl (fun j_ hj_ => ((hc64 (FM.le.refl _) HS35) j_ hj_))) ?_)
    refine seqK rfl (does_alloc (z := Value.agg #[.int .i64 0, .int .i64 0, .bool false]) (cs := #[.int .i64 0, .int .i64 0, .bool false]) rfl (by kernel_rfl) rfl HS35 ?_)
    intro b68 W69 HS70
    refine seqK rfl (does_store (n := 3) (vs := [.int .i64 ((rd l1 x43).Lo), .int .i64 ((rd l1 x43).Hi), .bool ((rd l1 x43).Unknown)]) (cs' := #[.int .i64 ((rd l1 x43).Lo), .int .i64 ((rd l1 x43).Hi), .bool ((rd l1 x43).Unknown)]) rfl (by kernel_rfl) (by kernel_rfl : _ = Value.pointer (some ⟨b68, 0, none⟩)) (by kernel_rfl : _ = Value.agg #[.int .i64 ((rd l1 x43).Lo), .int .i64 ((rd l1 x43).Hi), .bool ((rd l1 x43).Unknown)]) rfl rfl (by intro u_ hu_; simp only [List.mem_cons, List.not_mem_nil, or_false] at hu_; rcases hu_ with rfl | rfl | rfl <;> rfl) HS70 (Nat.le_of_ble_eq_true rfl) (by kernel_rfl) ?_)
    intro W72 HS73
    refine wpList_nil ?_
    refine hK60 _ _ ?_
    refine wp_seq_k (fun K74 hK75 => ?_)
    refine wp_region_lit ?_
    refine seqK rfl (does_run (run_loadN (n := 3) rfl Try.underlying44 rfl (by kernel_rfl) (by kernel_rfl : _ = Value.pointer (some ⟨b68, 0, none⟩)) (cs := [.int .i64 ((rd l1 x43).Lo), .int .i64 ((rd l1 x43).Hi), .bool ((rd l1 x43).Unknown)]) rfl (HS73.cells 0 3 _ rfl)) ?_)
    refine seqK rfl (does_run (run_loadN (n := 3) rfl Try.underlying44 rfl (by kernel_rfl) (by kernel_rfl : _ = Value.pointer (some ⟨b68, 0, none⟩)) (cs := [.int .i64 ((rd l1 x43).Lo), .int .i64 ((rd l1 x43).Hi), .bool ((rd l1 x43).Unknown)]) rfl (HS73.cells 0 3 _ rfl)) ?_)
    have hq_ := bind_some h; clear h; obtain ⟨vt76, hc77, h⟩ := hq_
    refine seqK rfl (does_call (f := 42) (args := #[.agg #[.int .i64 ((rd l1 x43).Lo), .int .i64 ((rd l1 x43).Hi), .bool ((rd l1 x43).Unknown)], .agg #[.int .i64 ((rd l1 x43).Lo), .int .i64 ((rd l1 x43).Hi), .bool ((rd l1 x43).Unknown)]]) (by kernel_rfl) (bound_vague_Quanta.calls k (rd l1 x43) (rd l1 x43) HS73 vt76 hc77) ?_)
    rintro _ W80 ⟨f78, rfl, L79, HS81⟩
    refine ⟨_, rfl, ?_⟩
    refine seqS1 (a' := ⟨#[.slice A2 l1.length c3, .int .i64 vf5, .pointer (some ⟨b8, 0, none⟩), undef, .pointer (some ⟨b12, 0, none⟩), .slice A38 ends37.length c39, undef, .pointer (some ⟨b68, 0, none⟩), undef, undef, .slice A2 l1.length c3, .int .i64 (l1.length : Int), .int .i64 x43, .bool true, .pointer (some ⟨b65, of66 + (x43 : Int).toNat * 3, none⟩), .agg #[.int .i64 ((rd l1 x43).Lo), .int .i64 ((rd l1 x43).Hi), .bool ((rd l1 x43).Unknown)], .agg #[.int .i64 ((rd l1 x43).Lo), .int .i64 ((rd l1 x43).Hi), .bool ((rd l1 x43).Unknown)], .agg #[.int .i64 ((rd l1 x43).Lo), .int .i64 ((rd l1 x43).Hi), .bool ((rd l1 x43).Unknown)], .bool vt76, .bool (!vt76), (j36 8), (j36 9), (j36 10), (j36 11), (j36 12), (j36 13), (j36 14), (j36 15), undef, undef, undef, undef, undef, undef, undef, undef, undef, undef, undef, undef, undef, undef, undef, undef, undef, undef, undef, undef, undef, undef, undef, undef, undef], []⟩) (by kernel_rfl) ?_
    refine wpList_nil ?_
    refine hK75 _ _ ?_
    have hq_ := ite_some h; clear h; rcases hq_ with ⟨c83, h⟩ | ⟨c83, h⟩
    · have c83 : ¬ (vt76 = true) := c83
      refine wpRwI 19 (x := (!vt76)) (v := true) (by kernel_rfl) (congrArg (fun b_ => !b_) (show vt76 = false from (Bool.eq_false_iff.mpr c83)) : (!vt76) = true) ?_
      refine condT (by kernel_rfl) ?_
      refine wp_region_lit ?_
      refine seqL2 (by kernel_rfl) ?_
      refine seqK rfl (does_run (run_load rfl Try.underlying42 rfl (by kernel_rfl : _ = Value.pointer (some ⟨b68, 0, none⟩)) (HS81.cell 0)) ?_)
      refine seqL1 (by kernel_rfl) ?_
      refine seqK rfl (does_run (run_load rfl Try.underlying42 rfl (by kernel_rfl : _ = Value.pointer (some ⟨b68, 1, none⟩)) (HS81.cell 1)) ?_)
      refine seqK rfl (does_lit (e := (tInt .i64)) (E := 42) (vs := #[(0, Value.int .i64 ((rd l1 x43).Lo)), (1, Value.int .i64 ((rd l1 x43).Hi))]) (cs := #[.int .i64 ((rd l1 x43).Lo), .int .i64 ((rd l1 x43).Hi)]) (xs := ([(rd l1 x43).Lo, (rd l1 x43).Hi] : List Int)) rfl Try.underlying28 (by kernel_rfl) (by kernel_rfl) ⟨[.int .i64 ((rd l1 x43).Lo)], _, rfl, rfl, ⟨[.int .i64 ((rd l1 x43).Hi)], _, rfl, rfl, rfl⟩⟩ rfl HS81 ?_ (by decide))
      intro b84 W85 s86 HS87 _ HO88
      have hq_ := guard_some h; clear h; obtain ⟨c90, h⟩ := hq_
      have c90 : (ends37.length + 2) * 8 ≤ 140737488355328 := c90
      have HS91 := HS87.u2
      have HS92 := HS91.u1
      refine seqK rfl (does_append1 (e := (tInt .i64)) (E := 42) (xs := ends37) (ys := ([(rd l1 x43).Lo, (rd l1 x43).Hi] : List Int)) rfl (by kernel_rfl : _ = Value.slice A38 ends37.length c39) (by kernel_rfl : _ = Value.slice (some ⟨b84, 0, none⟩) ([(rd l1 x43).Lo, (rd l1 x43).Hi] : List Int).length 2) Try.underlying28 inf42 (HO41.mono L79) HO88 HS92 c90 (lim63 c90 (by decide)) ?_)
      intro A93 c94 s95 W96 HS97 HO98
      refine seqS1 (a' := ⟨#[.slice A2 l1.length c3, .int .i64 vf5, .pointer (some ⟨b8, 0, none⟩), undef, .pointer (some ⟨b12, 0, none⟩), .slice A93 (ends37 ++ ([(rd l1 x43).Lo, (rd l1 x43).Hi] : List Int)).length c94, undef, .pointer (some ⟨b68, 0, none⟩), undef, undef, .slice A2 l1.length c3, .int .i64 (l1.length : Int), .int .i64 x43, .bool true, .pointer (some ⟨b65, of66 + (x43 : Int).toNat * 3, none⟩), .agg #[.int .i64 ((rd l1 x43).Lo), .int .i64 ((rd l1 x43).Hi), .bool ((rd l1 x43).Unknown)], .agg #[.int .i64 ((rd l1 x43).Lo), .int .i64 ((rd l1 x43).Hi), .bool ((rd l1 x43).Unknown)], .agg #[.int .i64 ((rd l1 x43).Lo), .int .i64 ((rd l1 x43).Hi), .bool ((rd l1 x43).Unknown)], .bool vt76, .bool true, .slice A38 ends37.length c39, .pointer (some ⟨b68, 0, none⟩), .int .i64 ((rd l1 x43).Lo), .pointer (some ⟨b68, 1, none⟩), .int .i64 ((rd l1 x43).Hi), .slice (some ⟨b84, 0, none⟩) ([(rd l1 x43).Lo, (rd l1 x43).Hi] : List Int).length 2, .slice A93 (ends37 ++ ([(rd l1 x43).Lo, (rd l1 x43).Hi] : List Int)).length c94, (j36 15), undef, undef, undef, undef, undef, undef, undef, undef, undef, undef, undef, undef, undef, undef, undef, undef, undef, undef, undef, undef, undef, undef, undef, undef, undef], []⟩) (by kernel_rfl) ?_
      refine wpList_nil ?_
      refine hn54 _ _ ?_
      refine hK51 _ _ ?_
      refine wp_region_lit ?_
      refine seqS2 (a' := ⟨#[.slice A2 l1.length c3, .int .i64 vf5, .pointer (some ⟨b8, 0, none⟩), undef, .pointer (some ⟨b12, 0, none⟩), .slice A93 (ends37 ++ ([(rd l1 x43).Lo, (rd l1 x43).Hi] : List Int)).length c94, undef, .pointer (some ⟨b68, 0, none⟩), undef, undef, .slice A2 l1.length c3, .int .i64 (l1.length : Int), .int .i64 (w64 (x43 + 1)), .bool true, .pointer (some ⟨b65, of66 + (x43 : Int).toNat * 3, none⟩), .agg #[.int .i64 ((rd l1 x43).Lo), .int .i64 ((rd l1 x43).Hi), .bool ((rd l1 x43).Unknown)], .agg #[.int .i64 ((rd l1 x43).Lo), .int .i64 ((rd l1 x43).Hi), .bool ((rd l1 x43).Unknown)], .agg #[.int .i64 ((rd l1 x43).Lo), .int .i64 ((rd l1 x43).Hi), .bool ((rd l1 x43).Unknown)], .bool vt76, .bool true, .slice A38 ends37.length c39, .pointer (some ⟨b68, 0, none⟩), .int .i64 ((rd l1 x43).Lo), .pointer (some ⟨b68, 1, none⟩), .int .i64 ((rd l1 x43).Hi), .slice (some ⟨b84, 0, none⟩) ([(rd l1 x43).Lo, (rd l1 x43).Hi] : List Int).length 2, .slice A93 (ends37 ++ ([(rd l1 x43).Lo, (rd l1 x43).Hi] : List Int)).length c94, .int .i64 (w64 (x43 + 1)), undef, undef, undef, undef, undef, undef, undef, undef, undef, undef, undef, undef, undef, undef, undef, undef, undef, undef, undef, undef, undef, undef, undef, undef, undef], []⟩) (by kernel_rfl) ?_
      refine wpList_nil ?_
      refine hK30 n31 _ _ (Nat.lt_succ_self _) ?_
      have HS115 := HS97.u3
      have HS116 := HS115.u3
      have HS117 := HS116.u2
      have HS118 := HS117.u3
      have HS119 := HS118.drop
      exact ⟨f78, A93, c94, s95, (ends37 ++ ([(rd l1 x43).Lo, (rd l1 x43).Hi] : List Int)), (w64 (x43 + 1)), (fun i_ => [Value.pointer (some ⟨b68, 0, none⟩), Value.bool true, Value.pointer (some ⟨b65, of66 + (x43 : Int).toNat * 3, none⟩), Value.agg #[.int .i64 ((rd l1 x43).Lo), .int .i64 ((rd l1 x43).Hi), .bool ((rd l1 x43).Unknown)], Value.agg #[.int .i64 ((rd l1 x43).Lo), .int .i64 ((rd l1 x43).Hi), .bool ((rd l1 x43).Unknown)], Value.agg #[.int .i64 ((rd l1 x43).Lo), .int .i64 ((rd l1 x43).Hi), .bool ((rd l1 x43).Unknown)], Value.bool vt76, Value.bool true, Value.slice A38 ends37.length c39, Value.pointer (some ⟨b68, 0, none⟩), Value.int .i64 ((rd l1 x43).Lo), Value.pointer (some ⟨b68, 1, none⟩), Value.int .i64 ((rd l1 x43).Hi), Value.slice (some ⟨b84, 0, none⟩) ([(rd l1 x43).Lo, (rd l1 x43).Hi] : List Int).length 2, Value.slice A93 (ends37 ++ ([(rd l1 x43).Lo, (rd l1 x43).Hi] : List Int)).length c94, Value.int .i64 (w64 (x43 + 1))].getD i_ undef), (L33.trans L79), HS119, HO98, h, (by kernel_rfl)⟩
    · have c83 : ¬ (¬ (vt76 = true)) := c83
      refine wpRwI 19 (x := (!vt76)) (v := false) (by kernel_rfl) (congrArg (fun b_ => !b_) (show vt76 = true from (Decidable.of_not_not c83)) : (!vt76) = false) ?_
      refine condF (by kernel_rfl) ?_
      refine wp_skip ?_
      refine hn54 _ _ ?_
      refine hK51 _ _ ?_
      refine wp_region_lit ?_
      refine seqS2 (a' := ⟨#[.slice A2 l1.length c3, .int .i64 vf5, .pointer (some ⟨b8, 0, none⟩), undef, .pointer (some ⟨b12, 0, none⟩), .slice A38 ends37.length c39, undef, .pointer (some ⟨b68, 0, none⟩), undef, undef, .slice A2 l1.length c3, .int .i64 (l1.length : Int), .int .i64 (w64 (x43 + 1)), .bool true, .pointer (some ⟨b65, of66 + (x43 : Int).toNat * 3, none⟩), .agg #[.int .i64 ((rd l1 x43).Lo), .int .i64 ((rd l1 x43).Hi), .bool ((rd l1 x43).Unknown)], .agg #[.int .i64 ((rd l1 x43).Lo), .int .i64 ((rd l1 x43).Hi), .bool ((rd l1 x43).Unknown)], .agg #[.int .i64 ((rd l1 x43).Lo), .int .i64 ((rd l1 x43).Hi), .bool ((rd l1 x43).Unknown)], .bool vt76, .bool false, (j36 8), (j36 9), (j36 10), (j36 11), (j36 12), (j36 13), (j36 14), .int .i64 (w64 (x43 + 1)), undef, undef, undef, undef, undef, undef, undef, undef, undef, undef, undef, undef, undef, undef, undef, undef, undef, undef, undef, undef, undef, undef, undef, undef, undef], []⟩) (by kernel_rfl) ?_
      refine wpList_nil ?_
      refine hK30 n31 _ _ (Nat.lt_succ_self _) ?_
      have HS120 := HS81.u3
      have HS121 := HS120.u3
      have HS122 := HS121.u3
      have HS123 := HS122.u3
      have HS124 := HS123.drop
      exact ⟨f78, A38, c39, s40, ends37, (w64 (x43 + 1)), (fun i_ => [Value.pointer (some ⟨b68, 0, none⟩), Value.bool true, Value.pointer (some ⟨b65, of66 + (x43 : Int).toNat * 3, none⟩), Value.agg #[.int .i64 ((rd l1 x43).Lo), .int .i64 ((rd l1 x43).Hi), .bool ((rd l1 x43).Unknown)], Value.agg #[.int .i64 ((rd l1 x43).Lo), .int .i64 ((rd l1 x43).Hi), .bool ((rd l1 x43).Unknown)], Value.agg #[.int .i64 ((rd l1 x43).Lo), .int .i64 ((rd l1 x43).Hi), .bool ((rd l1 x43).Unknown)], Value.bool vt76, Value.bool false, (j36 8), (j36 9), (j36 10), (j36 11), (j36 12), (j36 13), (j36 14), Value.int .i64 (w64 (x43 + 1))].getD i_ undef), (L33.trans L79), HS124, (HO41.mono L79), h, (by kernel_rfl)⟩
  · have c49 : ¬ (x43 < (l1.length : Int)) := c49
    refine wpRwI 13 (x := (decide (x43 < (l1.length : Int)))) (v := false) (by kernel_rfl) (decide_eq_false c49) ?_
    refine condF (by kernel_rfl) ?_
    refine wp_exit ?_
    refine hx23 _ _ ?_
    exact J111 f32 A38 c39 s40 ends37 (fun i_ => [(j36 0), Value.int .i64 x43, Value.bool false, (j36 2), (j36 3), (j36 4), (j36 5), (j36 6), (j36 7), (j36 8), (j36 9), (j36 10), (j36 11), (j36 12), (j36 13), (j36 14), (j36 15)].getD i_ undef) W34 _ L33 h HS35 HO41 (by kernel_rfl)

set_option maxRecDepth 100000 in
set_option maxHeartbeats 4000000 in
theorem clean_Combine.calls (k : Nat) (A2 : Option Addr) (c3 : Nat) (l1 : List S_Cells) (vf5 : Int) {t w : World} {f : FM} {H : List Seg} (HS : St t w f (H)) (HR4 : SlR ty_Cells f A2 c3 l1) (r1 : S_Cells) (r2 : Int) (h : clean_Combine k l1 vf5 = some (r1, r2)) :
    Calls Try.prog 13 #[.slice A2 l1.length c3, .int .i64 vf5] w (fun e w' => ∃ (g : FM) (A446 : Option Addr) (c447 : Nat) (s448 : Seg), e = .returned (Value.tuple #[.agg #[.int .i64 r1.W, .int .i64 r1.H, .slice A446 r1.At.length c447], .int .i64 r2]) ∧ FM.le f g ∧ St t w' g (s448 :: H) ∧ Own ty_Bound 44 g A446 c447 s448 r1.At) := by
  unfold clean_Combine at h
  refine enter Try.func13 rfl (tm := #[.slice A2 l1.length c3, .int .i64 vf5, undef, undef, undef, undef, undef, undef, undef, undef, undef, undef, undef, undef, undef, undef, undef, undef, undef, undef, undef, undef, undef, undef, undef, undef, undef, undef, undef, undef, undef, undef, undef, undef, undef, undef, undef, undef, undef, undef, undef, undef, undef, undef, undef, undef, undef, undef, undef, undef, undef, undef, undef, undef, undef, undef, undef, undef, undef, undef, undef]) (by kernel_rfl) ?_
  intro B hret hnor hnp
  refine wp_seq_k (fun K6 hK7 => ?_)
  refine wp_region_lit ?_
  refine seqK rfl (does_alloc (z := Value.agg #[.int .i64 0, .int .i64 0, .slice none 0 0]) (cs := #[.int .i64 0, .int .i64 0, .slice none 0 0]) rfl (by kernel_rfl) rfl HS ?_)
  intro b8 W9 HS10
  refine seqS1 (a' := ⟨#[.slice A2 l1.length c3, .int .i64 vf5, undef, undef, .pointer (some ⟨b8, 0, none⟩), .int .i64 0, undef, undef, undef, undef, undef, undef, undef, undef, undef, undef, undef, undef, undef, undef, undef, undef, undef, undef, undef, undef, undef, undef, undef, undef, undef, undef, undef, undef, undef, undef, undef, undef, undef, undef, undef, undef, undef, undef, undef, undef, undef, undef, undef, undef, undef, undef, undef, undef, undef, undef, undef, undef, undef, undef, undef], []⟩) (by kernel_rfl) ?_
  refine wpList_nil ?_
  refine hK7 _ _ ?_
  refine wp_seq_k (fun K12 hK13 => ?_)
  refine wp_seq_k (fun K14 hK15 => ?_)
  refine wp_region_lit ?_
  have hq_ := bind_some h; clear h; obtain ⟨vt16, hc17, h⟩ := hq_
  refine seqL2 (by kernel_rfl) ?_
  refine seqK rfl (does_call (f := 40) (args := #[.slice A2 l1.length c3, .int .i64 vf5]) (by kernel_rfl) (clean_valid.calls k A2 c3 l1 vf5 HS10 HR4 vt16 hc17) ?_)
  rintro _ W20 ⟨f18, rfl, L19, HS21⟩
  refine ⟨_, rfl, ?_⟩
  refine seqS1 (a' := ⟨#[.slice A2 l1.length c3, .int .i64 vf5, undef, undef, .pointer (some ⟨b8, 0, none⟩), .int .i64 0, .int .i64 vt16, undef, undef, undef, undef, undef, .slice A2 l1.length c3, .int .i64 vf5, .int .i64 vt16, undef, undef, undef, undef, undef, undef, undef, undef, undef, undef, undef, undef, undef, undef, undef, undef, undef, undef, undef, undef, undef, undef, undef, undef, undef, undef, undef, undef, undef, undef, undef, undef, undef, undef, undef, undef, undef, undef, undef, undef, undef, undef, undef, undef, undef, undef], []⟩) (by kernel_rfl) ?_
  refine wpList_nil ?_
  refine hK15 _ _ ?_
  refine wp_seq_k (fun K22 hK23 => ?_)
  refine wp_region_lit ?_
  refine seqS2 (a' := ⟨#[.slice A2 l1.length c3, .int .i64 vf5, undef, undef, .pointer (some ⟨b8, 0, none⟩), .int .i64 0, .int .i64 vt16, undef, undef, undef, undef, undef, .slice A2 l1.length c3, .int .i64 vf5, .int .i64 vt16, .int .i64 vt16, .bool (vt16 != 0), undef, undef, undef, undef, undef, undef, undef, undef, undef, undef, undef, undef, undef, undef, undef, undef, undef, undef, undef, undef, undef, undef, undef, undef, undef, undef, undef, undef, undef, undef, undef, undef, undef, undef, undef, undef, undef, undef, undef, undef, undef, undef, undef, undef], []⟩) (by kernel_rfl) ?_
  refine wpList_nil ?_
  refine hK23 _ _ ?_
  have hq_ := ite_some h; clear h; rcases hq_ with ⟨c25, h⟩ | ⟨c25, h⟩
  · have c25 : vt16 ≠ 0 := c25
    refine wpRwI 16 (x := (vt16 != 0)) (v := true) (by kernel_rfl) (bne_iff_ne.mpr c25) ?_
    refine condT (by kernel_rfl) ?_
    refine wp_seq_k (fun K26 hK27 => ?_)
    refine wp_region_lit ?_
    refine seqL2 (by kernel_rfl) ?_
    refine seqK rfl (does_store (n := 3) (vs := [.int .i64 0, .int .i64 0, .slice none 0 0]) (cs' := #[.int .i64 0, .int .i64 0, .slice none 0 0]) rfl (by kernel_rfl) (by kernel_rfl : _ = Value.pointer (some ⟨b8, 0, none⟩)) (by kernel_rfl : _ = Value.agg #[.int .i64 0, .int .i64 0, .slice none 0 0]) rfl rfl (by intro u_ hu_; simp only [List.mem_cons, List.not_mem_nil, or_false] at hu_; rcases hu_ with rfl | rfl | rfl <;> rfl) HS21 (Nat.le_of_ble_eq_true rfl) (by kernel_rfl) ?_)
    intro W28 HS29
    refine seqS1 (a' := ⟨#[.slice A2 l1.length c3, .int .i64 vf5, undef, undef, .pointer (some ⟨b8, 0, none⟩), .int .i64 vt16, .int .i64 vt16, undef, undef, undef, undef, undef, .slice A2 l1.length c3, .int .i64 vf5, .int .i64 vt16, .int .i64 vt16, .bool true, .agg #[.int .i64 0, .int .i64 0, .slice none 0 0], .int .i64 vt16, undef, undef, undef, undef, undef, undef, undef, undef, undef, undef, undef, undef, undef, undef, undef, undef, undef, undef, undef, undef, undef, undef, undef, undef, undef, undef, undef, undef, undef, undef, undef, undef, undef, undef, undef, undef, undef, undef, undef, undef, undef, undef], []⟩) (by kernel_rfl) ?_
    refine wpList_nil ?_
    refine hK27 _ _ ?_
    refine wp_ret ?_
    refine hret _ _ ?_
    have HS437 := HS29.cons_nil
    refine ends (v := Value.tuple #[.agg #[.int .i64 0, .int .i64 0, .slice none 0 0], .int .i64 vt16]) (results2 (q1 := .cell 4 34) (q2 := .tmp 5) (by kernel_rfl) (resN (n := 3) (cs := [.int .i64 0, .int .i64 0, .slice none 0 0]) (by kernel_rfl : _ = Value.pointer (some ⟨b8, 0, none⟩)) Try.underlying34 rfl (by kernel_rfl) rfl (HS437.u1.cells 0 3 _ rfl)) (resT (by kernel_rfl : _ = Value.int .i64 vt16))) (by kernel_rfl) ?_
    have HS439 := HS437.u1
    have HS440 := HS439.drop
    injection h with h
    injection h with h0_ h
    subst h0_ h
    exact ⟨f18, none, 0, [], rfl, L19, HS440, (Own.nil _)⟩
  · have c25 : ¬ (vt16 ≠ 0) := c25
    refine wpRwI 16 (x := (vt16 != 0)) (v := false) (by kernel_rfl) (bne_eq_false_iff_eq.mpr (Decidable.of_not_not c25)) ?_
    refine condF (by kernel_rfl) ?_
    refine wp_skip ?_
    refine hK13 _ _ ?_
    refine wp_seq_k (fun K30 hK31 => ?_)
    refine heldG (S := Sg t f18 ([(b8, .cells #[.int .i64 0, .int .i64 0, .slice none 0 0] 34 (0, 0))] :: H) []) (n := 11) (by kernel_rfl) rfl HS21 ?_
    intro W32 HS33
    have hq_ := guard_some h; clear h; obtain ⟨c34, h⟩ := hq_
    have c34 : 0 < (l1.length : Int) := c34
    obtain ⟨b38, of39, cs35, hA40, hr36, hc37⟩ := (HR4.mono L19).at (i := 0) (by decide) c34
    obtain ⟨A41, c41, rfl, HR41⟩ := hr36
    refine takeG [0] (n := 11) (fuel := 10) (l' := #[true, false, false, false, false, false, false, false, false, false, false]) (a' := ⟨#[.slice A2 l1.length c3, .int .i64 vf5, undef, undef, .pointer (some ⟨b8, 0, none⟩), .int .i64 0, .int .i64 vt16, undef, undef, undef, undef, undef, .slice A2 l1.length c3, .int .i64 vf5, .int .i64 vt16, .int .i64 vt16, .bool false, undef, undef, .slice A2 l1.length c3, undef, undef, undef, undef, undef, undef, undef, undef, undef, undef, undef, undef, undef, undef, undef, undef, undef, undef, undef, undef, undef, undef, undef, undef, undef, undef, undef, undef, undef, undef, undef, undef, undef, undef, undef, undef, undef, undef, undef, undef, undef], []⟩) rfl (by kernel_rfl) (by kernel_rfl) (by kernel_rfl) hnp (Sg.g0 (Sx.of [] (FM.le.refl _) HS33)) ?_
    refine takeGQ 1 [] rfl (by kernel_rfl) (by kernel_rfl) (by kernel_rfl) (by kernel_rfl) (by kernel_rfl) (by kernel_rfl) hnp (Sg.g0 (Sx.of [] (FM.le.refl _) HS33)) (fun w_ hw_ => by obtain ⟨g_, hl_, hS_⟩ := hw_.st; exact run_indexE hA40 (sz := 3) rfl Try.underlying27 (by kernel_rfl) (by kernel_rfl : _ = Value.slice A2 l1.length c3) (by kernel_rfl : _ = Value.int .i64 0) (by decide) c34 w_) ?_
    refine takeG [2] (n := 9) (fuel := 8) (l' := #[true, true, true, false, false, false, false, false, false, false, false]) (a' := ⟨#[.slice A2 l1.length c3, .int .i64 vf5, undef, undef, .pointer (some ⟨b8, 0, none⟩), .int .i64 0, .int .i64 vt16, undef, undef, undef, undef, undef, .slice A2 l1.length c3, .int .i64 vf5, .int .i64 vt16, .int .i64 vt16, .bool false, undef, undef, .slice A2 l1.length c3, .pointer (some ⟨b38, of39 + (0 : Int).toNat * 3, none⟩), .pointer (some ⟨b38, of39 + (0 : Int).toNat * 3, none⟩), undef, undef, undef, undef, undef, undef, undef, undef, undef, undef, undef, undef, undef, undef, undef, undef, undef, undef, undef, undef, undef, undef, undef, undef, undef, undef, undef, undef, undef, undef, undef, undef, undef, undef, undef, undef, undef, undef, undef], []⟩) rfl (by kernel_rfl) (by kernel_rfl) (by kernel_rfl) hnp (Sg.g0 (Sx.of [] (FM.le.refl _) HS33)) ?_
    refine takeGQ 3 [] rfl (by kernel_rfl) (by kernel_rfl) (by kernel_rfl) (by kernel_rfl) (by kernel_rfl) (by kernel_rfl) hnp (Sg.g0 (Sx.of [] (FM.le.refl _) HS33)) (fun w_ hw_ => by obtain ⟨g_, hl_, hS_⟩ := hw_.st; exact run_load rfl Try.underlying3 rfl (by kernel_rfl : _ = Value.pointer (some ⟨b38, of39 + (0 : Int).toNat * 3, none⟩)) ((hc37 hl_ hS_) 0 (by decide))) ?_
    refine takeG [4] (n := 7) (fuel := 6) (l' := #[true, true, true, true, true, false, false, false, false, false, false]) (a' := ⟨#[.slice A2 l1.length c3, .int .i64 vf5, undef, undef, .pointer (some ⟨b8, 0, none⟩), .int .i64 0, .int .i64 vt16, undef, undef, undef, undef, undef, .slice A2 l1.length c3, .int .i64 vf5, .int .i64 vt16, .int .i64 vt16, .bool false, undef, undef, .slice A2 l1.length c3, .pointer (some ⟨b38, of39 + (0 : Int).toNat * 3, none⟩), .pointer (some ⟨b38, of39 + (0 : Int).toNat * 3, none⟩), .int .i64 ((rd l1 0).W), .slice A2 l1.length c3, undef, undef, undef, undef, undef, undef, undef, undef, undef, undef, undef, undef, undef, undef, undef, undef, undef, undef, undef, undef, undef, undef, undef, undef, undef, undef, undef, undef, undef, undef, undef, undef, undef, undef, undef, undef, undef], []⟩) rfl (by kernel_rfl) (by kernel_rfl) (by kernel_rfl) hnp (Sg.g0 (Sx.of [] (FM.le.refl _) HS33)) ?_
    refine takeGQ 5 [] rfl (by kernel_rfl) (by kernel_rfl) (by kernel_rfl) (by kernel_rfl) (by kernel_rfl) (by kernel_rfl) hnp (Sg.g0 (Sx.of [] (FM.le.refl _) HS33)) (fun w_ hw_ => by obtain ⟨g_, hl_, hS_⟩ := hw_.st; exact run_indexE hA40 (sz := 3) rfl Try.underlying27 (by kernel_rfl) (by kernel_rfl : _ = Value.slice A2 l1.length c3) (by kernel_rfl : _ = Value.int .i64 0) (by decide) c34 w_) ?_
    refine takeG [6] (n := 5) (fuel := 4) (l' := #[true, true, true, true, true, true, true, false, false, false, false]) (a' := ⟨#[.slice A2 l1.length c3, .int .i64 vf5, undef, undef, .pointer (some ⟨b8, 0, none⟩), .int .i64 0, .int .i64 vt16, undef, undef, undef, undef, undef, .slice A2 l1.length c3, .int .i64 vf5, .int .i64 vt16, .int .i64 vt16, .bool false, undef, undef, .slice A2 l1.length c3, .pointer (some ⟨b38, of39 + (0 : Int).toNat * 3, none⟩), .pointer (some ⟨b38, of39 + (0 : Int).toNat * 3, none⟩), .int .i64 ((rd l1 0).W), .slice A2 l1.length c3, .pointer (some ⟨b38, of39 + (0 : Int).toNat * 3, none⟩), .pointer (some ⟨b38, of39 + (0 : Int).toNat * 3 + 1, none⟩), undef, undef, undef, undef, undef, undef, undef, undef, undef, undef, undef, undef, undef, undef, undef, undef, undef, undef, undef, undef, undef, undef, undef, undef, undef, undef, undef, undef, undef, undef, undef, undef, undef, undef, undef], []⟩) rfl (by kernel_rfl) (by kernel_rfl) (by kernel_rfl) hnp (Sg.g0 (Sx.of [] (FM.le.refl _) HS33)) ?_
    refine takeGQ 7 [] rfl (by kernel_rfl) (by kernel_rfl) (by kernel_rfl) (by kernel_rfl) (by kernel_rfl) (by kernel_rfl) hnp (Sg.g0 (Sx.of [] (FM.le.refl _) HS33)) (fun w_ hw_ => by obtain ⟨g_, hl_, hS_⟩ := hw_.st; exact run_load rfl Try.underlying3 rfl (by kernel_rfl : _ = Value.pointer (some ⟨b38, of39 + (0 : Int).toNat * 3 + 1, none⟩)) ((hc37 hl_ hS_) 1 (by decide))) ?_
    refine takeG [8] (n := 3) (fuel := 2) (l' := #[true, true, true, true, true, true, true, true, true, false, false]) (a' := ⟨#[.slice A2 l1.length c3, .int .i64 vf5, undef, undef, .pointer (some ⟨b8, 0, none⟩), .int .i64 0, .int .i64 vt16, undef, undef, undef, undef, undef, .slice A2 l1.length c3, .int .i64 vf5, .int .i64 vt16, .int .i64 vt16, .bool false, undef, undef, .slice A2 l1.length c3, .pointer (some ⟨b38, of39 + (0 : Int).toNat * 3, none⟩), .pointer (some ⟨b38, of39 + (0 : Int).toNat * 3, none⟩), .int .i64 ((rd l1 0).W), .slice A2 l1.length c3, .pointer (some ⟨b38, of39 + (0 : Int).toNat * 3, none⟩), .pointer (some ⟨b38, of39 + (0 : Int).toNat * 3 + 1, none⟩), .int .i64 ((rd l1 0).H), .agg #[.int .i64 ((rd l1 0).W), .int .i64 ((rd l1 0).H), .slice none 0 0], undef, undef, undef, undef, undef, undef, undef, undef, undef, undef, undef, undef, undef, undef, undef, undef, undef, undef, undef, undef, undef, undef, undef, undef, undef, undef, undef, undef, undef, undef, undef, undef, undef], []⟩) rfl (by kernel_rfl) (by kernel_rfl) (by kernel_rfl) hnp (Sg.g0 (Sx.of [] (FM.le.refl _) HS33)) ?_
    refine takeGE 9 (by kernel_rfl) rfl (by kernel_rfl) (does_alloc (z := Value.agg #[.int .i64 0, .int .i64 0, .slice none 0 0]) (cs := #[.int .i64 0, .int .i64 0, .slice none 0 0]) rfl (by kernel_rfl) rfl HS33 ?_)
    intro b42 W43 HS44
    refine ⟨(Sg.g0 (Sx.of [[(b42, .cells #[.int .i64 0, .int .i64 0, .slice none 0 0] 34 (0, 0))]] (FM.le.refl _) HS44)), ?_⟩
    refine takeGE 10 (by kernel_rfl) rfl (by kernel_rfl) (does_store (n := 3) (vs := [.int .i64 ((rd l1 0).W), .int .i64 ((rd l1 0).H), .slice none 0 0]) (cs' := #[.int .i64 ((rd l1 0).W), .int .i64 ((rd l1 0).H), .slice none 0 0]) rfl (by kernel_rfl) (by kernel_rfl : _ = Value.pointer (some ⟨b42, 0, none⟩)) (by kernel_rfl : _ = Value.agg #[.int .i64 ((rd l1 0).W), .int .i64 ((rd l1 0).H), .slice none 0 0]) rfl rfl (by intro u_ hu_; simp only [List.mem_cons, List.not_mem_nil, or_false] at hu_; rcases hu_ with rfl | rfl | rfl <;> rfl) HS44 (Nat.le_of_ble_eq_true rfl) (by kernel_rfl) ?_)
    intro W46 HS47
    refine ⟨(Sg.g0 (Sx.of [[(b42, .cells #[.int .i64 ((rd l1 0).W), .int .i64 ((rd l1 0).H), .slice none 0 0] 34 (0, 0))]] (FM.le.refl _) HS47)), ?_⟩
    refine doneG (by kernel_rfl) ?_ _
    refine hK31 _ _ ?_
    refine wp_seq_k (fun K48 hK49 => ?_)
    refine wp_seq_k (fun K50 hK51 => ?_)
    refine wp_region_lit ?_
    refine seqL1 (by kernel_rfl) ?_
    refine seqK rfl (does_run (run_indexE hA40 (sz := 3) rfl Try.underlying27 (by kernel_rfl) (by kernel_rfl : _ = Value.slice A2 l1.length c3) (by kernel_rfl : _ = Value.int .i64 0) (by decide) c34 W46) ?_)
    refine seqL1 (by kernel_rfl) ?_
    refine seqK rfl (does_run (run_load rfl Try.underlying32 rfl (by kernel_rfl : _ = Value.pointer (some ⟨b38, of39 + (0 : Int).toNat * 3 + 2, none⟩)) ((hc37 (FM.le.refl _) HS47) 2 (by decide))) ?_)
    refine seqS2 (a' := ⟨#[.slice A2 l1.length c3, .int .i64 vf5, undef, undef, .pointer (some ⟨b8, 0, none⟩), .int .i64 0, .int .i64 vt16, .pointer (some ⟨b42, 0, none⟩), undef, undef, undef, undef, .slice A2 l1.length c3, .int .i64 vf5, .int .i64 vt16, .int .i64 vt16, .bool false, undef, undef, .slice A2 l1.length c3, .pointer (some ⟨b38, of39 + (0 : Int).toNat * 3, none⟩), .pointer (some ⟨b38, of39 + (0 : Int).toNat * 3, none⟩), .int .i64 ((rd l1 0).W), .slice A2 l1.length c3, .pointer (some ⟨b38, of39 + (0 : Int).toNat * 3, none⟩), .pointer (some ⟨b38, of39 + (0 : Int).toNat * 3 + 1, none⟩), .int .i64 ((rd l1 0).H), .agg #[.int .i64 ((rd l1 0).W), .int .i64 ((rd l1 0).H), .slice none 0 0], .slice A2 l1.length c3, .pointer (some ⟨b38, of39 + (0 : Int).toNat * 3, none⟩), .pointer (some ⟨b38, of39 + (0 : Int).toNat * 3 + 2, none⟩), .slice A41 ((rd l1 0).At).length c41, .int .i64 (((rd l1 0).At).length : Int), .int .i64 0, undef, undef, undef, undef, undef, undef, undef, undef, undef, undef, undef, undef, undef, undef, undef, undef, undef, undef, undef, undef, undef, undef, undef, undef, undef, undef, undef], []⟩) (by kernel_rfl) ?_
    refine wpList_nil ?_
    refine hK51 _ _ ?_
    refine blockK (fun B52 hx53 hn54 hr55 ho56 hp57 => ?_)
    have hq_ := bind_some h; clear h; obtain ⟨o231, hv422, h⟩ := hq_
    have J423 : ∀ (f411 : FM) (A417 : Option Addr) (c418 : Nat) (s419 : Seg) (x416 : List S_Bound) (j415 : Nat → Value) (W413 : World) (a_ : Act), FM.le f18 f411 → some (x416) = some o231 → St t W413 f411 (s419 :: [(b42, .cells #[.int .i64 ((rd l1 0).W), .int .i64 ((rd l1 0).H), .slice A417 x416.length c418] 34 (0, 0))] :: [(b8, .cells #[.int .i64 0, .int .i64 0, .slice none 0 0] 34 (0, 0))] :: H) → Own ty_Bound 44 f411 A417 c418 s419 x416 → a_ = ⟨#[.slice A2 l1.length c3, .int .i64 vf5, undef, undef, .pointer (some ⟨b8, 0, none⟩), .int .i64 0, .int .i64 vt16, .pointer (some ⟨b42, 0, none⟩), (j415 0), (j415 1), undef, (j415 2), .slice A2 l1.length c3, .int .i64 vf5, .int .i64 vt16, .int .i64 vt16, .bool false, undef, undef, .slice A2 l1.length c3, .pointer (some ⟨b38, of39 + (0 : Int).toNat * 3, none⟩), .pointer (some ⟨b38, of39 + (0 : Int).toNat * 3, none⟩), .int .i64 ((rd l1 0).W), .slice A2 l1.length c3, .pointer (some ⟨b38, of39 + (0 : Int).toNat * 3, none⟩), .pointer (some ⟨b38, of39 + (0 : Int).toNat * 3 + 1, none⟩), .int .i64 ((rd l1 0).H), .agg #[.int .i64 ((rd l1 0).W), .int .i64 ((rd l1 0).H), .slice none 0 0], .slice A2 l1.length c3, .pointer (some ⟨b38, of39 + (0 : Int).toNat * 3, none⟩), .pointer (some ⟨b38, of39 + (0 : Int).toNat * 3 + 2, none⟩), .slice A41 ((rd l1 0).At).length c41, .int .i64 (((rd l1 0).At).length : Int), (j415 3), (j415 4), (j415 5), (j415 6), (j415 7), (j415 8), (j415 9), (j415 10), (j415 11), (j415 12), (j415 13), (j415 14), (j415 15), (j415 16), (j415 17), (j415 18), (j415 19), (j415 20), (j415 21), (j415 22), (j415 23), (j415 24), (j415 25), (j415 26), (j415 27), (j415 28), (j415 29), undef], []⟩ → K48 a_ W413 := by
      intro f411 A417 c418 s419 x416 j415 W413 a_ L412 hj424 HS414 HO420 hfr_; subst hfr_
      injection hj424 with hj424; subst hj424; try dsimp only at h
      refine hK49 _ _ ?_
      refine wp_seq_k (fun K432 hK433 => ?_)
      refine wp_region_lit ?_
      refine seqK rfl (does_run (run_loadN (n := 3) rfl Try.underlying34 rfl (by kernel_rfl) (by kernel_rfl : _ = Value.pointer (some ⟨b42, 0, none⟩)) (cs := [.int .i64 ((rd l1 0).W), .int .i64 ((rd l1 0).H), .slice A417 x416.length c418]) rfl (HS414.u1.cells 0 3 _ rfl)) ?_)
      have HS434 := HS414.u2
      refine seqK rfl (does_store (n := 3) (vs := [.int .i64 ((rd l1 0).W), .int .i64 ((rd l1 0).H), .slice A417 x416.length c418]) (cs' := #[.int .i64 ((rd l1 0).W), .int .i64 ((rd l1 0).H), .slice A417 x416.length c418]) rfl (by kernel_rfl) (by kernel_rfl : _ = Value.pointer (some ⟨b8, 0, none⟩)) (by kernel_rfl : _ = Value.agg #[.int .i64 ((rd l1 0).W), .int .i64 ((rd l1 0).H), .slice A417 x416.length c418]) rfl rfl (by intro u_ hu_; simp only [List.mem_cons, List.not_mem_nil, or_false] at hu_; rcases hu_ with rfl | rfl | rfl <;> rfl) HS434 (Nat.le_of_ble_eq_true rfl) (by kernel_rfl) ?_)
      intro W435 HS436
      refine seqS1 (a' := ⟨#[.slice A2 l1.length c3, .int .i64 vf5, undef, undef, .pointer (some ⟨b8, 0, none⟩), .int .i64 0, .int .i64 vt16, .pointer (some ⟨b42, 0, none⟩), (j415 0), (j415 1), undef, (j415 2), .slice A2 l1.length c3, .int .i64 vf5, .int .i64 vt16, .int .i64 vt16, .bool false, undef, undef, .slice A2 l1.length c3, .pointer (some ⟨b38, of39 + (0 : Int).toNat * 3, none⟩), .pointer (some ⟨b38, of39 + (0 : Int).toNat * 3, none⟩), .int .i64 ((rd l1 0).W), .slice A2 l1.length c3, .pointer (some ⟨b38, of39 + (0 : Int).toNat * 3, none⟩), .pointer (some ⟨b38, of39 + (0 : Int).toNat * 3 + 1, none⟩), .int .i64 ((rd l1 0).H), .agg #[.int .i64 ((rd l1 0).W), .int .i64 ((rd l1 0).H), .slice none 0 0], .slice A2 l1.length c3, .pointer (some ⟨b38, of39 + (0 : Int).toNat * 3, none⟩), .pointer (some ⟨b38, of39 + (0 : Int).toNat * 3 + 2, none⟩), .slice A41 ((rd l1 0).At).length c41, .int .i64 (((rd l1 0).At).length : Int), (j415 3), (j415 4), (j415 5), (j415 6), (j415 7), (j415 8), (j415 9), (j415 10), (j415 11), (j415 12), (j415 13), (j415 14), (j415 15), (j415 16), (j415 17), (j415 18), (j415 19), (j415 20), (j415 21), (j415 22), (j415 23), (j415 24), (j415 25), (j415 26), (j415 27), (j415 28), (j415 29), .agg #[.int .i64 ((rd l1 0).W), .int .i64 ((rd l1 0).H), .slice A417 x416.length c418]], []⟩) (by kernel_rfl) ?_
      refine wpList_nil ?_
      refine hK433 _ _ ?_
      refine wp_ret ?_
      refine hret _ _ ?_
      refine ends (v := Value.tuple #[.agg #[.int .i64 ((rd l1 0).W), .int .i64 ((rd l1 0).H), .slice A417 x416.length c418], .int .i64 0]) (results2 (q1 := .cell 4 34) (q2 := .tmp 5) (by kernel_rfl) (resN (n := 3) (cs := [.int .i64 ((rd l1 0).W), .int .i64 ((rd l1 0).H), .slice A417 x416.length c418]) (by kernel_rfl : _ = Value.pointer (some ⟨b8, 0, none⟩)) Try.underlying34 rfl (by kernel_rfl) rfl (HS436.cells 0 3 _ rfl)) (resT (by kernel_rfl : _ = Value.int .i64 0))) (by kernel_rfl) ?_
      have HS441 := HS436.u1
      have HS442 := HS441.u2
      have HS443 := HS442.u2
      have HS444 := HS443.drop
      have HS445 := HS444.drop
      injection h with h
      injection h with h0_ h
      subst h0_ h
      exact ⟨f411, A417, c418, s419, rfl, (L19.trans L412), HS445, HO420⟩
    clear h; have h := hv422; clear hv422
    have HS425 := HS47.cons_nil
    refine loopK (fun n_ a_ w_ => ∃ (f235 : FM) (A242 : Option Addr) (c243 : Nat) (s244 : Seg) (x240 : Int) (x241 : List S_Bound) (j239 : Nat → Value), FM.le f18 f235 ∧ St t w_ f235 (s244 :: [(b42, .cells #[.int .i64 ((rd l1 0).W), .int .i64 ((rd l1 0).H), .slice A242 x241.length c243] 34 (0, 0))] :: [(b8, .cells #[.int .i64 0, .int .i64 0, .slice none 0 0] 34 (0, 0))] :: H) ∧ Own ty_Bound 44 f235 A242 c243 s244 x241 ∧ clean_Combine.l0 k l1 vf5 n_ x240 x241 = some o231 ∧ a_ = ⟨#[.slice A2 l1.length c3, .int .i64 vf5, undef, undef, .pointer (some ⟨b8, 0, none⟩), .int .i64 0, .int .i64 vt16, .pointer (some ⟨b42, 0, none⟩), (j239 0), (j239 1), undef, (j239 2), .slice A2 l1.length c3, .int .i64 vf5, .int .i64 vt16, .int .i64 vt16, .bool false, undef, undef, .slice A2 l1.length c3, .pointer (some ⟨b38, of39 + (0 : Int).toNat * 3, none⟩), .pointer (some ⟨b38, of39 + (0 : Int).toNat * 3, none⟩), .int .i64 ((rd l1 0).W), .slice A2 l1.length c3, .pointer (some ⟨b38, of39 + (0 : Int).toNat * 3, none⟩), .pointer (some ⟨b38, of39 + (0 : Int).toNat * 3 + 1, none⟩), .int .i64 ((rd l1 0).H), .agg #[.int .i64 ((rd l1 0).W), .int .i64 ((rd l1 0).H), .slice none 0 0], .slice A2 l1.length c3, .pointer (some ⟨b38, of39 + (0 : Int).toNat * 3, none⟩), .pointer (some ⟨b38, of39 + (0 : Int).toNat * 3 + 2, none⟩), .slice A41 ((rd l1 0).At).length c41, .int .i64 (((rd l1 0).At).length : Int), .int .i64 x240, (j239 3), (j239 4), (j239 5), (j239 6), (j239 7), (j239 8), (j239 9), (j239 10), (j239 11), (j239 12), (j239 13), (j239 14), (j239 15), (j239 16), (j239 17), (j239 18), (j239 19), (j239 20), (j239 21), (j239 22), (j239 23), (j239 24), (j239 25), (j239 26), (j239 27), (j239 28), undef], []⟩) k ⟨f18, none, 0, [], 0, ([] : List S_Bound), (fun i_ => [undef, undef, undef, undef, undef, undef, undef, undef, undef, undef, undef, undef, undef, undef, undef, undef, undef, undef, undef, undef, undef, undef, undef, undef, undef, undef, undef, undef, undef].getD i_ undef), (FM.le.refl _), HS425, (Own.nil _), h, (by kernel_rfl)⟩ ?_
    clear h
    rintro n234 _ W237 ⟨f235, A242, c243, s244, x240, x241, j239, L236, HS238, HO245, h, rfl⟩ K232 hK233
    obtain _ | n234 := n234
    · exact nomatch h
    simp only [clean_Combine.l0] at h
    refine wp_seq_k (fun K247 hK248 => ?_)
    refine wp_region_lit ?_
    refine seqS1 (a' := ⟨#[.slice A2 l1.length c3, .int .i64 vf5, undef, undef, .pointer (some ⟨b8, 0, none⟩), .int .i64 0, .int .i64 vt16, .pointer (some ⟨b42, 0, none⟩), (j239 0), (j239 1), undef, (j239 2), .slice A2 l1.length c3, .int .i64 vf5, .int .i64 vt16, .int .i64 vt16, .bool false, undef, undef, .slice A2 l1.length c3, .pointer (some ⟨b38, of39 + (0 : Int).toNat * 3, none⟩), .pointer (some ⟨b38, of39 + (0 : Int).toNat * 3, none⟩), .int .i64 ((rd l1 0).W), .slice A2 l1.length c3, .pointer (some ⟨b38, of39 + (0 : Int).toNat * 3, none⟩), .pointer (some ⟨b38, of39 + (0 : Int).toNat * 3 + 1, none⟩), .int .i64 ((rd l1 0).H), .agg #[.int .i64 ((rd l1 0).W), .int .i64 ((rd l1 0).H), .slice none 0 0], .slice A2 l1.length c3, .pointer (some ⟨b38, of39 + (0 : Int).toNat * 3, none⟩), .pointer (some ⟨b38, of39 + (0 : Int).toNat * 3 + 2, none⟩), .slice A41 ((rd l1 0).At).length c41, .int .i64 (((rd l1 0).At).length : Int), .int .i64 x240, .bool (decide (x240 < (((rd l1 0).At).length : Int))), (j239 4), (j239 5), (j239 6), (j239 7), (j239 8), (j239 9), (j239 10), (j239 11), (j239 12), (j239 13), (j239 14), (j239 15), (j239 16), (j239 17), (j239 18), (j239 19), (j239 20), (j239 21), (j239 22), (j239 23), (j239 24), (j239 25), (j239 26), (j239 27), (j239 28), undef], []⟩) (by kernel_rfl) ?_
    refine wpList_nil ?_
    refine hK248 _ _ ?_
    refine wp_seq_k (fun K249 hK250 => ?_)
    have hq_ := ite_some h; clear h; rcases hq_ with ⟨c252, h⟩ | ⟨c252, h⟩
    · have c252 : x240 < (((rd l1 0).At).length : Int) := c252
      refine wpRwI 34 (x := (decide (x240 < (((rd l1 0).At).length : Int)))) (v := true) (by kernel_rfl) (decide_eq_true c252) ?_
      refine condT (by kernel_rfl) ?_
      refine wp_skip ?_
      refine hK250 _ _ ?_
      refine wp_seq_k (fun K253 hK254 => ?_)
      refine blockK (fun B255 hx256 hn257 hr258 ho259 hp260 => ?_)
      refine wp_seq_k (fun K262 hK263 => ?_)
      refine wp_region_lit ?_
      refine seqS2 (a' := ⟨#[.slice A2 l1.length c3, .int .i64 vf5, undef, undef, .pointer (some ⟨b8, 0, none⟩), .int .i64 0, .int .i64 vt16, .pointer (some ⟨b42, 0, none⟩), .int .i64 x240, (j239 1), undef, (j239 2), .slice A2 l1.length c3, .int .i64 vf5, .int .i64 vt16, .int .i64 vt16, .bool false, undef, undef, .slice A2 l1.length c3, .pointer (some ⟨b38, of39 + (0 : Int).toNat * 3, none⟩), .pointer (some ⟨b38, of39 + (0 : Int).toNat * 3, none⟩), .int .i64 ((rd l1 0).W), .slice A2 l1.length c3, .pointer (some ⟨b38, of39 + (0 : Int).toNat * 3, none⟩), .pointer (some ⟨b38, of39 + (0 : Int).toNat * 3 + 1, none⟩), .int .i64 ((rd l1 0).H), .agg #[.int .i64 ((rd l1 0).W), .int .i64 ((rd l1 0).H), .slice none 0 0], .slice A2 l1.length c3, .pointer (some ⟨b38, of39 + (0 : Int).toNat * 3, none⟩), .pointer (some ⟨b38, of39 + (0 : Int).toNat * 3 + 2, none⟩), .slice A41 ((rd l1 0).At).length c41, .int .i64 (((rd l1 0).At).length : Int), .int .i64 x240, .bool true, .int .i64 x240, (j239 5), (j239 6), (j239 7), (j239 8), (j239 9), (j239 10), (j239 11), (j239 12), (j239 13), (j239 14), (j239 15), (j239 16), (j239 17), (j239 18), (j239 19), (j239 20), (j239 21), (j239 22), (j239 23), (j239 24), (j239 25), (j239 26), (j239 27), (j239 28), undef], []⟩) (by kernel_rfl) ?_
      refine wpList_nil ?_
      refine hK263 _ _ ?_
      refine wp_seq_k (fun K264 hK265 => ?_)
      refine wp_region_lit ?_
      refine seqS1 (a' := ⟨#[.slice A2 l1.length c3, .int .i64 vf5, undef, undef, .pointer (some ⟨b8, 0, none⟩), .int .i64 0, .int .i64 vt16, .pointer (some ⟨b42, 0, none⟩), .int .i64 x240, .slice none 0 0, undef, (j239 2), .slice A2 l1.length c3, .int .i64 vf5, .int .i64 vt16, .int .i64 vt16, .bool false, undef, undef, .slice A2 l1.length c3, .pointer (some ⟨b38, of39 + (0 : Int).toNat * 3, none⟩), .pointer (some ⟨b38, of39 + (0 : Int).toNat * 3, none⟩), .int .i64 ((rd l1 0).W), .slice A2 l1.length c3, .pointer (some ⟨b38, of39 + (0 : Int).toNat * 3, none⟩), .pointer (some ⟨b38, of39 + (0 : Int).toNat * 3 + 1, none⟩), .int .i64 ((rd l1 0).H), .agg #[.int .i64 ((rd l1 0).W), .int .i64 ((rd l1 0).H), .slice none 0 0], .slice A2 l1.length c3, .pointer (some ⟨b38, of39 + (0 : Int).toNat * 3, none⟩), .pointer (some ⟨b38, of39 + (0 : Int).toNat * 3 + 2, none⟩), .slice A41 ((rd l1 0).At).length c41, .int .i64 (((rd l1 0).At).length : Int), .int .i64 x240, .bool true, .int .i64 x240, (j239 5), (j239 6), (j239 7), (j239 8), (j239 9), (j239 10), (j239 11), (j239 12), (j239 13), (j239 14), (j239 15), (j239 16), (j239 17), (j239 18), (j239 19), (j239 20), (j239 21), (j239 22), (j239 23), (j239 24), (j239 25), (j239 26), (j239 27), (j239 28), undef], []⟩) (by kernel_rfl) ?_
      refine wpList_nil ?_
      refine hK265 _ _ ?_
      refine wp_seq_k (fun K266 hK267 => ?_)
      refine wp_seq_k (fun K268 hK269 => ?_)
      refine wp_region_lit ?_
      refine seqS3 (a' := ⟨#[.slice A2 l1.length c3, .int .i64 vf5, undef, undef, .pointer (some ⟨b8, 0, none⟩), .int .i64 0, .int .i64 vt16, .pointer (some ⟨b42, 0, none⟩), .int .i64 x240, .slice none 0 0, undef, (j239 2), .slice A2 l1.length c3, .int .i64 vf5, .int .i64 vt16, .int .i64 vt16, .bool false, undef, undef, .slice A2 l1.length c3, .pointer (some ⟨b38, of39 + (0 : Int).toNat * 3, none⟩), .pointer (some ⟨b38, of39 + (0 : Int).toNat * 3, none⟩), .int .i64 ((rd l1 0).W), .slice A2 l1.length c3, .pointer (some ⟨b38, of39 + (0 : Int).toNat * 3, none⟩), .pointer (some ⟨b38, of39 + (0 : Int).toNat * 3 + 1, none⟩), .int .i64 ((rd l1 0).H), .agg #[.int .i64 ((rd l1 0).W), .int .i64 ((rd l1 0).H), .slice none 0 0], .slice A2 l1.length c3, .pointer (some ⟨b38, of39 + (0 : Int).toNat * 3, none⟩), .pointer (some ⟨b38, of39 + (0 : Int).toNat * 3 + 2, none⟩), .slice A41 ((rd l1 0).At).length c41, .int .i64 (((rd l1 0).At).length : Int), .int .i64 x240, .bool true, .int .i64 x240, .slice A2 l1.length c3, .int .i64 (l1.length : Int), .int .i64 0, (j239 8), (j239 9), (j239 10), (j239 11), (j239 12), (j239 13), (j239 14), (j239 15), (j239 16), (j239 17), (j239 18), (j239 19), (j239 20), (j239 21), (j239 22), (j239 23), (j239 24), (j239 25), (j239 26), (j239 27), (j239 28), undef], []⟩) (by kernel_rfl) ?_
      refine wpList_nil ?_
      refine hK269 _ _ ?_
      refine blockK (fun B270 hx271 hn272 hr273 ho274 hp275 => ?_)
      have hq_ := bind_some h; clear h; obtain ⟨o276, hv357, h⟩ := hq_
      have J358 : ∀ (f346 : FM) (A352 : Option Addr) (c353 : Nat) (s354 : Seg) (cell351 : List S_Bound) (j350 : Nat → Value) (W348 : World) (a_ : Act), FM.le f235 f346 → some (cell351) = some o276 → St t W348 f346 (s354 :: s244 :: [(b42, .cells #[.int .i64 ((rd l1 0).W), .int .i64 ((rd l1 0).H), .slice A242 x241.length c243] 34 (0, 0))] :: [(b8, .cells #[.int .i64 0, .int .i64 0, .slice none 0 0] 34 (0, 0))] :: H) → Own ty_Bound 44 f346 A352 c353 s354 cell351 → a_ = ⟨#[.slice A2 l1.length c3, .int .i64 vf5, undef, undef, .pointer (some ⟨b8, 0, none⟩), .int .i64 0, .int .i64 vt16, .pointer (some ⟨b42, 0, none⟩), .int .i64 x240, .slice A352 cell351.length c353, undef, (j350 0), .slice A2 l1.length c3, .int .i64 vf5, .int .i64 vt16, .int .i64 vt16, .bool false, undef, undef, .slice A2 l1.length c3, .pointer (some ⟨b38, of39 + (0 : Int).toNat * 3, none⟩), .pointer (some ⟨b38, of39 + (0 : Int).toNat * 3, none⟩), .int .i64 ((rd l1 0).W), .slice A2 l1.length c3, .pointer (some ⟨b38, of39 + (0 : Int).toNat * 3, none⟩), .pointer (some ⟨b38, of39 + (0 : Int).toNat * 3 + 1, none⟩), .int .i64 ((rd l1 0).H), .agg #[.int .i64 ((rd l1 0).W), .int .i64 ((rd l1 0).H), .slice none 0 0], .slice A2 l1.length c3, .pointer (some ⟨b38, of39 + (0 : Int).toNat * 3, none⟩), .pointer (some ⟨b38, of39 + (0 : Int).toNat * 3 + 2, none⟩), .slice A41 ((rd l1 0).At).length c41, .int .i64 (((rd l1 0).At).length : Int), .int .i64 x240, .bool true, .int .i64 x240, .slice A2 l1.length c3, .int .i64 (l1.length : Int), (j350 1), (j350 2), (j350 3), (j350 4), (j350 5), (j350 6), (j350 7), (j350 8), (j350 9), (j350 10), (j350 11), (j350 12), (j350 13), (j239 20), (j239 21), (j239 22), (j239 23), (j239 24), (j239 25), (j239 26), (j239 27), (j239 28), undef], []⟩ → K266 a_ W348 := by
        intro f346 A352 c353 s354 cell351 j350 W348 a_ L347 hj359 HS349 HO355 hfr_; subst hfr_
        injection hj359 with hj359; subst hj359; try dsimp only at h
        refine hK267 _ _ ?_
        have HS368 := HS349.u3
        have HS369 := HS368.u1
        have HS370 := HS369.u3
        have HS371 := HS370.u3
        refine heldG (S := Sg t f346 (s354 :: [(b8, .cells #[.int .i64 0, .int .i64 0, .slice none 0 0] 34 (0, 0))] :: H) [(6, s244), (8, [(b42, .cells #[.int .i64 ((rd l1 0).W), .int .i64 ((rd l1 0).H), .slice A242 x241.length c243] 34 (0, 0))])]) (n := 9) (by kernel_rfl) rfl HS371 ?_
        intro W372 HS373
        refine takeG [0] (n := 9) (fuel := 8) (l' := #[true, false, false, false, false, false, false, false, false]) (a' := ⟨#[.slice A2 l1.length c3, .int .i64 vf5, undef, undef, .pointer (some ⟨b8, 0, none⟩), .int .i64 0, .int .i64 vt16, .pointer (some ⟨b42, 0, none⟩), .int .i64 x240, .slice A352 cell351.length c353, undef, (j350 0), .slice A2 l1.length c3, .int .i64 vf5, .int .i64 vt16, .int .i64 vt16, .bool false, undef, undef, .slice A2 l1.length c3, .pointer (some ⟨b38, of39 + (0 : Int).toNat * 3, none⟩), .pointer (some ⟨b38, of39 + (0 : Int).toNat * 3, none⟩), .int .i64 ((rd l1 0).W), .slice A2 l1.length c3, .pointer (some ⟨b38, of39 + (0 : Int).toNat * 3, none⟩), .pointer (some ⟨b38, of39 + (0 : Int).toNat * 3 + 1, none⟩), .int .i64 ((rd l1 0).H), .agg #[.int .i64 ((rd l1 0).W), .int .i64 ((rd l1 0).H), .slice none 0 0], .slice A2 l1.length c3, .pointer (some ⟨b38, of39 + (0 : Int).toNat * 3, none⟩), .pointer (some ⟨b38, of39 + (0 : Int).toNat * 3 + 2, none⟩), .slice A41 ((rd l1 0).At).length c41, .int .i64 (((rd l1 0).At).length : Int), .int .i64 x240, .bool true, .int .i64 x240, .slice A2 l1.length c3, .int .i64 (l1.length : Int), (j350 1), (j350 2), (j350 3), (j350 4), (j350 5), (j350 6), (j350 7), (j350 8), (j350 9), (j350 10), (j350 11), (j350 12), (j350 13), .pointer (some ⟨b42, 2, none⟩), (j239 21), (j239 22), (j239 23), (j239 24), (j239 25), (j239 26), (j239 27), (j239 28), undef], []⟩) rfl (by kernel_rfl) (by kernel_rfl) (by kernel_rfl) (fun ch_ a_ w_ q_ => (fun ch_ a_ w_ q_ => hnp ch_ a_ w_ (hp57 ch_ a_ w_ q_)) ch_ a_ w_ (hp260 ch_ a_ w_ q_)) (Sg.g2 (Sx.of [s244, [(b42, .cells #[.int .i64 ((rd l1 0).W), .int .i64 ((rd l1 0).H), .slice A242 x241.length c243] 34 (0, 0))]] (FM.le.refl _) HS373) (fun _ => St.only [] HS373 (FM.le.refl _)) (fun _ => St.only [s244] HS373 (FM.le.refl _))) ?_
        refine takeGQ 1 [8] rfl (by kernel_rfl) (by kernel_rfl) (by kernel_rfl) (by kernel_rfl) (by kernel_rfl) (by kernel_rfl) (fun ch_ a_ w_ q_ => (fun ch_ a_ w_ q_ => hnp ch_ a_ w_ (hp57 ch_ a_ w_ q_)) ch_ a_ w_ (hp260 ch_ a_ w_ q_)) (Sg.g2 (Sx.of [s244, [(b42, .cells #[.int .i64 ((rd l1 0).W), .int .i64 ((rd l1 0).H), .slice A242 x241.length c243] 34 (0, 0))]] (FM.le.refl _) HS373) (fun _ => St.only [] HS373 (FM.le.refl _)) (fun _ => St.only [s244] HS373 (FM.le.refl _))) (fun w_ hw_ => by obtain ⟨g_, hl_, hS_⟩ := hw_.seg (j := 8) (s := [(b42, .cells #[.int .i64 ((rd l1 0).W), .int .i64 ((rd l1 0).H), .slice A242 x241.length c243] 34 (0, 0))]) (by simp) (by simp); exact run_load rfl Try.underlying32 rfl (by kernel_rfl : _ = Value.pointer (some ⟨b42, 2, none⟩)) (hS_.cell 2)) ?_
        refine takeG [2, 3] (n := 7) (fuel := 5) (l' := #[true, true, true, true, false, false, false, false, false]) (a' := ⟨#[.slice A2 l1.length c3, .int .i64 vf5, undef, undef, .pointer (some ⟨b8, 0, none⟩), .int .i64 0, .int .i64 vt16, .pointer (some ⟨b42, 0, none⟩), .int .i64 x240, .slice A352 cell351.length c353, undef, (j350 0), .slice A2 l1.length c3, .int .i64 vf5, .int .i64 vt16, .int .i64 vt16, .bool false, undef, undef, .slice A2 l1.length c3, .pointer (some ⟨b38, of39 + (0 : Int).toNat * 3, none⟩), .pointer (some ⟨b38, of39 + (0 : Int).toNat * 3, none⟩), .int .i64 ((rd l1 0).W), .slice A2 l1.length c3, .pointer (some ⟨b38, of39 + (0 : Int).toNat * 3, none⟩), .pointer (some ⟨b38, of39 + (0 : Int).toNat * 3 + 1, none⟩), .int .i64 ((rd l1 0).H), .agg #[.int .i64 ((rd l1 0).W), .int .i64 ((rd l1 0).H), .slice none 0 0], .slice A2 l1.length c3, .pointer (some ⟨b38, of39 + (0 : Int).toNat * 3, none⟩), .pointer (some ⟨b38, of39 + (0 : Int).toNat * 3 + 2, none⟩), .slice A41 ((rd l1 0).At).length c41, .int .i64 (((rd l1 0).At).length : Int), .int .i64 x240, .bool true, .int .i64 x240, .slice A2 l1.length c3, .int .i64 (l1.length : Int), (j350 1), (j350 2), (j350 3), (j350 4), (j350 5), (j350 6), (j350 7), (j350 8), (j350 9), (j350 10), (j350 11), (j350 12), (j350 13), .pointer (some ⟨b42, 2, none⟩), .slice A242 x241.length c243, .slice A352 cell351.length c353, .int .i64 vf5, (j239 24), (j239 25), (j239 26), (j239 27), (j239 28), undef], []⟩) rfl (by kernel_rfl) (by kernel_rfl) (by kernel_rfl) (fun ch_ a_ w_ q_ => (fun ch_ a_ w_ q_ => hnp ch_ a_ w_ (hp57 ch_ a_ w_ q_)) ch_ a_ w_ (hp260 ch_ a_ w_ q_)) (Sg.g2 (Sx.of [s244, [(b42, .cells #[.int .i64 ((rd l1 0).W), .int .i64 ((rd l1 0).H), .slice A242 x241.length c243] 34 (0, 0))]] (FM.le.refl _) HS373) (fun _ => St.only [] HS373 (FM.le.refl _)) (fun _ => St.only [s244] HS373 (FM.le.refl _))) ?_
        have HS374 := HS373.u2
        obtain ⟨f375, L376, HS377, HR378, th379⟩ := HO355.lend HS374
        have hq_ := bind_some h; clear h; obtain ⟨vt380, hc381, h⟩ := hq_
        refine takeGE 4 (by kernel_rfl) rfl (by kernel_rfl) (does_call (f := 41) (args := #[.slice A352 cell351.length c353, .int .i64 vf5]) (by kernel_rfl) (bound_Fuse_Quanta.calls k A352 c353 cell351 vf5 HS377 HR378 vt380 hc381) ?_)
        rintro _ W384 ⟨f382, rfl, L383, HS385⟩
        refine ⟨_, rfl, ?_⟩
        obtain ⟨f386, L387, HS388⟩ := th379 L383 HS385
        have HS389 := HS388.u3
        have HS390 := HS389.u1
        have HS391 := HS390.u3
        have HS392 := HS391.u3
        refine ⟨(Sg.g2 (Sx.of [s244, [(b42, .cells #[.int .i64 ((rd l1 0).W), .int .i64 ((rd l1 0).H), .slice A242 x241.length c243] 34 (0, 0))]] L387 HS392) (fun _ => St.only [] HS392 L387) (fun _ => St.only [s244] HS392 L387)), ?_⟩
        refine takeGE 5 (by kernel_rfl) rfl (by kernel_rfl) (does_lit (e := ty_Bound) (E := 44) (vs := #[(0, Value.agg #[.int .i64 vt380.Lo, .int .i64 vt380.Hi, .bool vt380.Unknown])]) (cs := #[.int .i64 vt380.Lo, .int .i64 vt380.Hi, .bool vt380.Unknown]) (xs := ([vt380] : List S_Bound)) rfl Try.underlying32 (by kernel_rfl) (by kernel_rfl) ⟨[.int .i64 vt380.Lo, .int .i64 vt380.Hi, .bool vt380.Unknown], _, rfl, rfl, rfl⟩ rfl HS392 ?_ (by decide))
        intro b393 W394 s395 HS396 _ HO397
        refine ⟨(Sg.g2 (Sx.of [s395, s244, [(b42, .cells #[.int .i64 ((rd l1 0).W), .int .i64 ((rd l1 0).H), .slice A242 x241.length c243] 34 (0, 0))]] L387 HS396) (fun _ => St.only [s395] HS396 L387) (fun _ => St.only [s395, s244] HS396 L387)), ?_⟩
        have hq_ := guard_some h; clear h; obtain ⟨c399, h⟩ := hq_
        have c399 : (x241.length + 1) * 24 ≤ 140737488355328 := c399
        have HS400 := HS396.u1
        have HS401 := HS400.u1
        refine takeGE 6 (by kernel_rfl) rfl (by kernel_rfl) (does_append1 (e := ty_Bound) (E := 44) (xs := x241) (ys := ([vt380] : List S_Bound)) rfl (by kernel_rfl : _ = Value.slice A242 x241.length c243) (by kernel_rfl : _ = Value.slice (some ⟨b393, 0, none⟩) ([vt380] : List S_Bound).length 1) Try.underlying32 inf44 (HO245.mono (L347.trans L387)) HO397 HS401 c399 (lim63 c399 (by decide)) ?_)
        intro A402 c403 s404 W405 HS406 HO407
        refine ⟨(Sg.g2 (Sx.of [s404, [(b42, .cells #[.int .i64 ((rd l1 0).W), .int .i64 ((rd l1 0).H), .slice A242 x241.length c243] 34 (0, 0))]] L387 HS406) (fun hl_ => Bool.noConfusion (show true = false from hl_)) (fun _ => St.only [s404] HS406 L387)), ?_⟩
        refine takeG [7] (n := 2) (fuel := 1) (l' := #[true, true, true, true, true, true, true, true, false]) (a' := ⟨#[.slice A2 l1.length c3, .int .i64 vf5, undef, undef, .pointer (some ⟨b8, 0, none⟩), .int .i64 0, .int .i64 vt16, .pointer (some ⟨b42, 0, none⟩), .int .i64 x240, .slice A352 cell351.length c353, undef, (j350 0), .slice A2 l1.length c3, .int .i64 vf5, .int .i64 vt16, .int .i64 vt16, .bool false, undef, undef, .slice A2 l1.length c3, .pointer (some ⟨b38, of39 + (0 : Int).toNat * 3, none⟩), .pointer (some ⟨b38, of39 + (0 : Int).toNat * 3, none⟩), .int .i64 ((rd l1 0).W), .slice A2 l1.length c3, .pointer (some ⟨b38, of39 + (0 : Int).toNat * 3, none⟩), .pointer (some ⟨b38, of39 + (0 : Int).toNat * 3 + 1, none⟩), .int .i64 ((rd l1 0).H), .agg #[.int .i64 ((rd l1 0).W), .int .i64 ((rd l1 0).H), .slice none 0 0], .slice A2 l1.length c3, .pointer (some ⟨b38, of39 + (0 : Int).toNat * 3, none⟩), .pointer (some ⟨b38, of39 + (0 : Int).toNat * 3 + 2, none⟩), .slice A41 ((rd l1 0).At).length c41, .int .i64 (((rd l1 0).At).length : Int), .int .i64 x240, .bool true, .int .i64 x240, .slice A2 l1.length c3, .int .i64 (l1.length : Int), (j350 1), (j350 2), (j350 3), (j350 4), (j350 5), (j350 6), (j350 7), (j350 8), (j350 9), (j350 10), (j350 11), (j350 12), (j350 13), .pointer (some ⟨b42, 2, none⟩), .slice A242 x241.length c243, .slice A352 cell351.length c353, .int .i64 vf5, .agg #[.int .i64 vt380.Lo, .int .i64 vt380.Hi, .bool vt380.Unknown], .slice (some ⟨b393, 0, none⟩) ([vt380] : List S_Bound).length 1, .slice A402 (x241 ++ ([vt380] : List S_Bound)).length c403, .pointer (some ⟨b42, 2, none⟩), (j239 28), undef], []⟩) rfl (by kernel_rfl) (by kernel_rfl) (by kernel_rfl) (fun ch_ a_ w_ q_ => (fun ch_ a_ w_ q_ => hnp ch_ a_ w_ (hp57 ch_ a_ w_ q_)) ch_ a_ w_ (hp260 ch_ a_ w_ q_)) (Sg.g2 (Sx.of [s404, [(b42, .cells #[.int .i64 ((rd l1 0).W), .int .i64 ((rd l1 0).H), .slice A242 x241.length c243] 34 (0, 0))]] L387 HS406) (fun hl_ => Bool.noConfusion (show true = false from hl_)) (fun _ => St.only [s404] HS406 L387)) ?_
        have HS408 := HS406.u1
        refine takeGE 8 (by kernel_rfl) rfl (by kernel_rfl) (does_store (n := 1) (vs := [.slice A402 (x241 ++ ([vt380] : List S_Bound)).length c403]) (cs' := #[.int .i64 ((rd l1 0).W), .int .i64 ((rd l1 0).H), .slice A402 (x241 ++ ([vt380] : List S_Bound)).length c403]) rfl (by kernel_rfl) (by kernel_rfl : _ = Value.pointer (some ⟨b42, 2, none⟩)) (by kernel_rfl : _ = Value.slice A402 (x241 ++ ([vt380] : List S_Bound)).length c403) rfl rfl (by intro u_ hu_; simp only [List.mem_cons, List.not_mem_nil, or_false] at hu_; subst hu_; rfl) HS408 (Nat.le_of_ble_eq_true rfl) (by kernel_rfl) ?_)
        intro W409 HS410
        refine ⟨(Sg.g2 (Sx.of [[(b42, .cells #[.int .i64 ((rd l1 0).W), .int .i64 ((rd l1 0).H), .slice A402 (x241 ++ ([vt380] : List S_Bound)).length c403] 34 (0, 0))], s404] L387 HS410) (fun hl_ => Bool.noConfusion (show true = false from hl_)) (fun hl_ => Bool.noConfusion (show true = false from hl_))), ?_⟩
        refine doneG (by kernel_rfl) ?_ _
        refine hn257 _ _ ?_
        refine hK254 _ _ ?_
        refine wp_region_lit ?_
        refine seqS2 (a' := ⟨#[.slice A2 l1.length c3, .int .i64 vf5, undef, undef, .pointer (some ⟨b8, 0, none⟩), .int .i64 0, .int .i64 vt16, .pointer (some ⟨b42, 0, none⟩), .int .i64 x240, .slice A352 cell351.length c353, undef, (j350 0), .slice A2 l1.length c3, .int .i64 vf5, .int .i64 vt16, .int .i64 vt16, .bool false, undef, undef, .slice A2 l1.length c3, .pointer (some ⟨b38, of39 + (0 : Int).toNat * 3, none⟩), .pointer (some ⟨b38, of39 + (0 : Int).toNat * 3, none⟩), .int .i64 ((rd l1 0).W), .slice A2 l1.length c3, .pointer (some ⟨b38, of39 + (0 : Int).toNat * 3, none⟩), .pointer (some ⟨b38, of39 + (0 : Int).toNat * 3 + 1, none⟩), .int .i64 ((rd l1 0).H), .agg #[.int .i64 ((rd l1 0).W), .int .i64 ((rd l1 0).H), .slice none 0 0], .slice A2 l1.length c3, .pointer (some ⟨b38, of39 + (0 : Int).toNat * 3, none⟩), .pointer (some ⟨b38, of39 + (0 : Int).toNat * 3 + 2, none⟩), .slice A41 ((rd l1 0).At).length c41, .int .i64 (((rd l1 0).At).length : Int), .int .i64 (w64 (x240 + 1)), .bool true, .int .i64 x240, .slice A2 l1.length c3, .int .i64 (l1.length : Int), (j350 1), (j350 2), (j350 3), (j350 4), (j350 5), (j350 6), (j350 7), (j350 8), (j350 9), (j350 10), (j350 11), (j350 12), (j350 13), .pointer (some ⟨b42, 2, none⟩), .slice A242 x241.length c243, .slice A352 cell351.length c353, .int .i64 vf5, .agg #[.int .i64 vt380.Lo, .int .i64 vt380.Hi, .bool vt380.Unknown], .slice (some ⟨b393, 0, none⟩) ([vt380] : List S_Bound).length 1, .slice A402 (x241 ++ ([vt380] : List S_Bound)).length c403, .pointer (some ⟨b42, 2, none⟩), .int .i64 (w64 (x240 + 1)), undef], []⟩) (by kernel_rfl) ?_
        refine wpList_nil ?_
        refine hK233 n234 _ _ (Nat.lt_succ_self _) ?_
        have HS427 := HS410.u3
        have HS428 := HS427.u1
        have HS429 := HS428.u2
        have HS430 := HS429.u3
        have HS431 := HS430.drop
        exact ⟨f386, A402, c403, s404, (w64 (x240 + 1)), (x241 ++ ([vt380] : List S_Bound)), (fun i_ => [Value.int .i64 x240, Value.slice A352 cell351.length c353, (j350 0), Value.bool true, Value.int .i64 x240, Value.slice A2 l1.length c3, Value.int .i64 (l1.length : Int), (j350 1), (j350 2), (j350 3), (j350 4), (j350 5), (j350 6), (j350 7), (j350 8), (j350 9), (j350 10), (j350 11), (j350 12), (j350 13), Value.pointer (some ⟨b42, 2, none⟩), Value.slice A242 x241.length c243, Value.slice A352 cell351.length c353, Value.int .i64 vf5, Value.agg #[.int .i64 vt380.Lo, .int .i64 vt380.Hi, .bool vt380.Unknown], Value.slice (some ⟨b393, 0, none⟩) ([vt380] : List S_Bound).length 1, Value.slice A402 (x241 ++ ([vt380] : List S_Bound)).length c403, Value.pointer (some ⟨b42, 2, none⟩), Value.int .i64 (w64 (x240 + 1))].getD i_ undef), (L236.trans (L347.trans L387)), HS431, HO407, h, (by kernel_rfl)⟩
      clear h; have h := hv357; clear hv357
      have HS360 := HS238.cons_nil
      refine loopK (fun n_ a_ w_ => ∃ (f280 : FM) (A286 : Option Addr) (c287 : Nat) (s288 : Seg) (cell285 : List S_Bound) (x291 : Int) (j284 : Nat → Value), FM.le f235 f280 ∧ St t w_ f280 (s288 :: s244 :: [(b42, .cells #[.int .i64 ((rd l1 0).W), .int .i64 ((rd l1 0).H), .slice A242 x241.length c243] 34 (0, 0))] :: [(b8, .cells #[.int .i64 0, .int .i64 0, .slice none 0 0] 34 (0, 0))] :: H) ∧ Own ty_Bound 44 f280 A286 c287 s288 cell285 ∧ clean_Combine.l1 k l1 x240 n_ cell285 x291 = some o276 ∧ a_ = ⟨#[.slice A2 l1.length c3, .int .i64 vf5, undef, undef, .pointer (some ⟨b8, 0, none⟩), .int .i64 0, .int .i64 vt16, .pointer (some ⟨b42, 0, none⟩), .int .i64 x240, .slice A286 cell285.length c287, undef, (j284 0), .slice A2 l1.length c3, .int .i64 vf5, .int .i64 vt16, .int .i64 vt16, .bool false, undef, undef, .slice A2 l1.length c3, .pointer (some ⟨b38, of39 + (0 : Int).toNat * 3, none⟩), .pointer (some ⟨b38, of39 + (0 : Int).toNat * 3, none⟩), .int .i64 ((rd l1 0).W), .slice A2 l1.length c3, .pointer (some ⟨b38, of39 + (0 : Int).toNat * 3, none⟩), .pointer (some ⟨b38, of39 + (0 : Int).toNat * 3 + 1, none⟩), .int .i64 ((rd l1 0).H), .agg #[.int .i64 ((rd l1 0).W), .int .i64 ((rd l1 0).H), .slice none 0 0], .slice A2 l1.length c3, .pointer (some ⟨b38, of39 + (0 : Int).toNat * 3, none⟩), .pointer (some ⟨b38, of39 + (0 : Int).toNat * 3 + 2, none⟩), .slice A41 ((rd l1 0).At).length c41, .int .i64 (((rd l1 0).At).length : Int), .int .i64 x240, .bool true, .int .i64 x240, .slice A2 l1.length c3, .int .i64 (l1.length : Int), .int .i64 x291, (j284 1), (j284 2), (j284 3), (j284 4), (j284 5), (j284 6), (j284 7), (j284 8), (j284 9), (j284 10), (j284 11), (j284 12), (j239 20), (j239 21), (j239 22), (j239 23), (j239 24), (j239 25), (j239 26), (j239 27), (j239 28), undef], []⟩) k ⟨f235, none, 0, [], ([] : List S_Bound), 0, (fun i_ => [(j239 2), (j239 8), (j239 9), (j239 10), (j239 11), (j239 12), (j239 13), (j239 14), (j239 15), (j239 16), (j239 17), (j239 18), (j239 19)].getD i_ undef), (FM.le.refl _), HS360, (Own.nil _), h, (by kernel_rfl)⟩ ?_
      clear h
      rintro n279 _ W282 ⟨f280, A286, c287, s288, cell285, x291, j284, L281, HS283, HO289, h, rfl⟩ K277 hK278
      obtain _ | n279 := n279
      · exact nomatch h
      simp only [clean_Combine.l1] at h
      refine wp_seq_k (fun K292 hK293 => ?_)
      refine wp_region_lit ?_
      refine seqS1 (a' := ⟨#[.slice A2 l1.length c3, .int .i64 vf5, undef, undef, .pointer (some ⟨b8, 0, none⟩), .int .i64 0, .int .i64 vt16, .pointer (some ⟨b42, 0, none⟩), .int .i64 x240, .slice A286 cell285.length c287, undef, (j284 0), .slice A2 l1.length c3, .int .i64 vf5, .int .i64 vt16, .int .i64 vt16, .bool false, undef, undef, .slice A2 l1.length c3, .pointer (some ⟨b38, of39 + (0 : Int).toNat * 3, none⟩), .pointer (some ⟨b38, of39 + (0 : Int).toNat * 3, none⟩), .int .i64 ((rd l1 0).W), .slice A2 l1.length c3, .pointer (some ⟨b38, of39 + (0 : Int).toNat * 3, none⟩), .pointer (some ⟨b38, of39 + (0 : Int).toNat * 3 + 1, none⟩), .int .i64 ((rd l1 0).H), .agg #[.int .i64 ((rd l1 0).W), .int .i64 ((rd l1 0).H), .slice none 0 0], .slice A2 l1.length c3, .pointer (some ⟨b38, of39 + (0 : Int).toNat * 3, none⟩), .pointer (some ⟨b38, of39 + (0 : Int).toNat * 3 + 2, none⟩), .slice A41 ((rd l1 0).At).length c41, .int .i64 (((rd l1 0).At).length : Int), .int .i64 x240, .bool true, .int .i64 x240, .slice A2 l1.length c3, .int .i64 (l1.length : Int), .int .i64 x291, .bool (decide (x291 < (l1.length : Int))), (j284 2), (j284 3), (j284 4), (j284 5), (j284 6), (j284 7), (j284 8), (j284 9), (j284 10), (j284 11), (j284 12), (j239 20), (j239 21), (j239 22), (j239 23), (j239 24), (j239 25), (j239 26), (j239 27), (j239 28), undef], []⟩) (by kernel_rfl) ?_
      refine wpList_nil ?_
      refine hK293 _ _ ?_
      refine wp_seq_k (fun K294 hK295 => ?_)
      have hq_ := ite_some h; clear h; rcases hq_ with ⟨c297, h⟩ | ⟨c297, h⟩
      · have c297 : x291 < (l1.length : Int) := c297
        refine wpRwI 39 (x := (decide (x291 < (l1.length : Int)))) (v := true) (by kernel_rfl) (decide_eq_true c297) ?_
        refine condT (by kernel_rfl) ?_
        refine wp_skip ?_
        refine hK295 _ _ ?_
        refine wp_seq_k (fun K298 hK299 => ?_)
        refine blockK (fun B300 hx301 hn302 hr303 ho304 hp305 => ?_)
        refine wp_seq_k (fun K307 hK308 => ?_)
        refine wp_region_lit ?_
        have hq_ := guard_some h; clear h; obtain ⟨c309, h⟩ := hq_
        have c309 : 0 ≤ x291 := c309
        obtain ⟨b313, of314, cs310, hA315, hr311, hc312⟩ := (HR4.mono (L19.trans (L236.trans L281))).at (i := x291) c309 c297
        obtain ⟨A316, c316, rfl, HR316⟩ := hr311
        refine seqK rfl (does_run (run_indexE hA315 (sz := 3) rfl Try.underlying27 (by kernel_rfl) (by kernel_rfl : _ = Value.slice A2 l1.length c3) (by kernel_rfl : _ = Value.int .i64 x291) c309 c297 W282) ?_)
        refine seqK rfl (does_run (run_loadN (n := 3) rfl Try.underlying34 rfl (by kernel_rfl) (by kernel_rfl : _ = Value.pointer (some ⟨b313, of314 + (x291 : Int).toNat * 3, none⟩)) (cs := [.int .i64 ((rd l1 x291).W), .int .i64 ((rd l1 x291).H), .slice A316 ((rd l1 x291).At).length c316]) rfl (fun j_ hj_ => ((hc312 (FM.le.refl _) HS283) j_ hj_))) ?_)
        refine seqK rfl (does_alloc (z := Value.agg #[.int .i64 0, .int .i64 0, .slice none 0 0]) (cs := #[.int .i64 0, .int .i64 0, .slice none 0 0]) rfl (by kernel_rfl) rfl HS283 ?_)
        intro b317 W318 HS319
        refine seqK rfl (does_store (n := 3) (vs := [.int .i64 ((rd l1 x291).W), .int .i64 ((rd l1 x291).H), .slice A316 ((rd l1 x291).At).length c316]) (cs' := #[.int .i64 ((rd l1 x291).W), .int .i64 ((rd l1 x291).H), .slice A316 ((rd l1 x291).At).length c316]) rfl (by kernel_rfl) (by kernel_rfl : _ = Value.pointer (some ⟨b317, 0, none⟩)) (by kernel_rfl : _ = Value.agg #[.int .i64 ((rd l1 x291).W), .int .i64 ((rd l1 x291).H), .slice A316 ((rd l1 x291).At).length c316]) rfl rfl (by intro u_ hu_; simp only [List.mem_cons, List.not_mem_nil, or_false] at hu_; rcases hu_ with rfl | rfl | rfl <;> rfl) HS319 (Nat.le_of_ble_eq_true rfl) (by kernel_rfl) ?_)
        intro W321 HS322
        refine wpList_nil ?_
        refine hK308 _ _ ?_
        refine wp_region_lit ?_
        refine seqL2 (by kernel_rfl) ?_
        refine seqK rfl (does_run (run_load rfl Try.underlying32 rfl (by kernel_rfl : _ = Value.pointer (some ⟨b317, 2, none⟩)) (HS322.cell 2)) ?_)
        have hq_ := guard_some h; clear h; obtain ⟨c323, h⟩ := hq_
        have c323 : 0 ≤ x240 := c323
        have hq_ := guard_some h; clear h; obtain ⟨c324, h⟩ := hq_
        have c324 : x240 < (((rd l1 x291).At).length : Int) := c324
        obtain ⟨b328, of329, cs325, hA330, hr326, hc327⟩ := HR316.at (i := x240) c323 c324
        obtain rfl := hr326
        refine seqL1 (by kernel_rfl) ?_
        refine seqK rfl (does_run (run_indexE hA330 (sz := 3) rfl Try.underlying32 (by kernel_rfl) (by kernel_rfl : _ = Value.slice A316 ((rd l1 x291).At).length c316) (by kernel_rfl : _ = Value.int .i64 x240) c323 c324 W321) ?_)
        refine seqK rfl (does_run (run_loadN (n := 3) rfl Try.underlying44 rfl (by kernel_rfl) (by kernel_rfl : _ = Value.pointer (some ⟨b328, of329 + (x240 : Int).toNat * 3, none⟩)) (cs := [.int .i64 ((rd ((rd l1 x291).At) x240).Lo), .int .i64 ((rd ((rd l1 x291).At) x240).Hi), .bool ((rd ((rd l1 x291).At) x240).Unknown)]) rfl (fun j_ hj_ => ((hc327 (FM.le.refl _) HS322) j_ hj_))) ?_)
        refine seqK rfl (does_lit (e := ty_Bound) (E := 44) (vs := #[(0, Value.agg #[.int .i64 ((rd ((rd l1 x291).At) x240).Lo), .int .i64 ((rd ((rd l1 x291).At) x240).Hi), .bool ((rd ((rd l1 x291).At) x240).Unknown)])]) (cs := #[.int .i64 ((rd ((rd l1 x291).At) x240).Lo), .int .i64 ((rd ((rd l1 x291).At) x240).Hi), .bool ((rd ((rd l1 x291).At) x240).Unknown)]) (xs := ([(rd ((rd l1 x291).At) x240)] : List S_Bound)) rfl Try.underlying32 (by kernel_rfl) (by kernel_rfl) ⟨[.int .i64 ((rd ((rd l1 x291).At) x240).Lo), .int .i64 ((rd ((rd l1 x291).At) x240).Hi), .bool ((rd ((rd l1 x291).At) x240).Unknown)], _, rfl, rfl, rfl⟩ rfl HS322 ?_ (by decide))
        intro b331 W332 s333 HS334 _ HO335
        have hq_ := guard_some h; clear h; obtain ⟨c337, h⟩ := hq_
        have c337 : (cell285.length + 1) * 24 ≤ 140737488355328 := c337
        have HS338 := HS334.u2
        have HS339 := HS338.u1
        refine seqK rfl (does_append1 (e := ty_Bound) (E := 44) (xs := cell285) (ys := ([(rd ((rd l1 x291).At) x240)] : List S_Bound)) rfl (by kernel_rfl : _ = Value.slice A286 cell285.length c287) (by kernel_rfl : _ = Value.slice (some ⟨b331, 0, none⟩) ([(rd ((rd l1 x291).At) x240)] : List S_Bound).length 1) Try.underlying32 inf44 HO289 HO335 HS339 c337 (lim63 c337 (by decide)) ?_)
        intro A340 c341 s342 W343 HS344 HO345
        refine seqS1 (a' := ⟨#[.slice A2 l1.length c3, .int .i64 vf5, undef, undef, .pointer (some ⟨b8, 0, none⟩), .int .i64 0, .int .i64 vt16, .pointer (some ⟨b42, 0, none⟩), .int .i64 x240, .slice A340 (cell285 ++ ([(rd ((rd l1 x291).At) x240)] : List S_Bound)).length c341, undef, .pointer (some ⟨b317, 0, none⟩), .slice A2 l1.length c3, .int .i64 vf5, .int .i64 vt16, .int .i64 vt16, .bool false, undef, undef, .slice A2 l1.length c3, .pointer (some ⟨b38, of39 + (0 : Int).toNat * 3, none⟩), .pointer (some ⟨b38, of39 + (0 : Int).toNat * 3, none⟩), .int .i64 ((rd l1 0).W), .slice A2 l1.length c3, .pointer (some ⟨b38, of39 + (0 : Int).toNat * 3, none⟩), .pointer (some ⟨b38, of39 + (0 : Int).toNat * 3 + 1, none⟩), .int .i64 ((rd l1 0).H), .agg #[.int .i64 ((rd l1 0).W), .int .i64 ((rd l1 0).H), .slice none 0 0], .slice A2 l1.length c3, .pointer (some ⟨b38, of39 + (0 : Int).toNat * 3, none⟩), .pointer (some ⟨b38, of39 + (0 : Int).toNat * 3 + 2, none⟩), .slice A41 ((rd l1 0).At).length c41, .int .i64 (((rd l1 0).At).length : Int), .int .i64 x240, .bool true, .int .i64 x240, .slice A2 l1.length c3, .int .i64 (l1.length : Int), .int .i64 x291, .bool true, .pointer (some ⟨b313, of314 + (x291 : Int).toNat * 3, none⟩), .agg #[.int .i64 ((rd l1 x291).W), .int .i64 ((rd l1 x291).H), .slice A316 ((rd l1 x291).At).length c316], .slice A286 cell285.length c287, .pointer (some ⟨b317, 2, none⟩), .slice A316 ((rd l1 x291).At).length c316, .int .i64 x240, .pointer (some ⟨b328, of329 + (x240 : Int).toNat * 3, none⟩), .agg #[.int .i64 ((rd ((rd l1 x291).At) x240).Lo), .int .i64 ((rd ((rd l1 x291).At) x240).Hi), .bool ((rd ((rd l1 x291).At) x240).Unknown)], .slice (some ⟨b331, 0, none⟩) ([(rd ((rd l1 x291).At) x240)] : List S_Bound).length 1, .slice A340 (cell285 ++ ([(rd ((rd l1 x291).At) x240)] : List S_Bound)).length c341, (j284 12), (j239 20), (j239 21), (j239 22), (j239 23), (j239 24), (j239 25), (j239 26), (j239 27), (j239 28), undef], []⟩) (by kernel_rfl) ?_
        refine wpList_nil ?_
        refine hn302 _ _ ?_
        refine hK299 _ _ ?_
        refine wp_region_lit ?_
        refine seqS2 (a' := ⟨#[.slice A2 l1.length c3, .int .i64 vf5, undef, undef, .pointer (some ⟨b8, 0, none⟩), .int .i64 0, .int .i64 vt16, .pointer (some ⟨b42, 0, none⟩), .int .i64 x240, .slice A340 (cell285 ++ ([(rd ((rd l1 x291).At) x240)] : List S_Bound)).length c341, undef, .pointer (some ⟨b317, 0, none⟩), .slice A2 l1.length c3, .int .i64 vf5, .int .i64 vt16, .int .i64 vt16, .bool false, undef, undef, .slice A2 l1.length c3, .pointer (some ⟨b38, of39 + (0 : Int).toNat * 3, none⟩), .pointer (some ⟨b38, of39 + (0 : Int).toNat * 3, none⟩), .int .i64 ((rd l1 0).W), .slice A2 l1.length c3, .pointer (some ⟨b38, of39 + (0 : Int).toNat * 3, none⟩), .pointer (some ⟨b38, of39 + (0 : Int).toNat * 3 + 1, none⟩), .int .i64 ((rd l1 0).H), .agg #[.int .i64 ((rd l1 0).W), .int .i64 ((rd l1 0).H), .slice none 0 0], .slice A2 l1.length c3, .pointer (some ⟨b38, of39 + (0 : Int).toNat * 3, none⟩), .pointer (some ⟨b38, of39 + (0 : Int).toNat * 3 + 2, none⟩), .slice A41 ((rd l1 0).At).length c41, .int .i64 (((rd l1 0).At).length : Int), .int .i64 x240, .bool true, .int .i64 x240, .slice A2 l1.length c3, .int .i64 (l1.length : Int), .int .i64 (w64 (x291 + 1)), .bool true, .pointer (some ⟨b313, of314 + (x291 : Int).toNat * 3, none⟩), .agg #[.int .i64 ((rd l1 x291).W), .int .i64 ((rd l1 x291).H), .slice A316 ((rd l1 x291).At).length c316], .slice A286 cell285.length c287, .pointer (some ⟨b317, 2, none⟩), .slice A316 ((rd l1 x291).At).length c316, .int .i64 x240, .pointer (some ⟨b328, of329 + (x240 : Int).toNat * 3, none⟩), .agg #[.int .i64 ((rd ((rd l1 x291).At) x240).Lo), .int .i64 ((rd ((rd l1 x291).At) x240).Hi), .bool ((rd ((rd l1 x291).At) x240).Unknown)], .slice (some ⟨b331, 0, none⟩) ([(rd ((rd l1 x291).At) x240)] : List S_Bound).length 1, .slice A340 (cell285 ++ ([(rd ((rd l1 x291).At) x240)] : List S_Bound)).length c341, .int .i64 (w64 (x291 + 1)), (j239 20), (j239 21), (j239 22), (j239 23), (j239 24), (j239 25), (j239 26), (j239 27), (j239 28), undef], []⟩) (by kernel_rfl) ?_
        refine wpList_nil ?_
        refine hK278 n279 _ _ (Nat.lt_succ_self _) ?_
        have HS362 := HS344.u4
        have HS363 := HS362.u4
        have HS364 := HS363.u4
        have HS365 := HS364.u3
        have HS366 := HS365.u4
        have HS367 := HS366.drop
        exact ⟨f280, A340, c341, s342, (cell285 ++ ([(rd ((rd l1 x291).At) x240)] : List S_Bound)), (w64 (x291 + 1)), (fun i_ => [Value.pointer (some ⟨b317, 0, none⟩), Value.bool true, Value.pointer (some ⟨b313, of314 + (x291 : Int).toNat * 3, none⟩), Value.agg #[.int .i64 ((rd l1 x291).W), .int .i64 ((rd l1 x291).H), .slice A316 ((rd l1 x291).At).length c316], Value.slice A286 cell285.length c287, Value.pointer (some ⟨b317, 2, none⟩), Value.slice A316 ((rd l1 x291).At).length c316, Value.int .i64 x240, Value.pointer (some ⟨b328, of329 + (x240 : Int).toNat * 3, none⟩), Value.agg #[.int .i64 ((rd ((rd l1 x291).At) x240).Lo), .int .i64 ((rd ((rd l1 x291).At) x240).Hi), .bool ((rd ((rd l1 x291).At) x240).Unknown)], Value.slice (some ⟨b331, 0, none⟩) ([(rd ((rd l1 x291).At) x240)] : List S_Bound).length 1, Value.slice A340 (cell285 ++ ([(rd ((rd l1 x291).At) x240)] : List S_Bound)).length c341, Value.int .i64 (w64 (x291 + 1))].getD i_ undef), L281, HS367, HO345, h, (by kernel_rfl)⟩
      · have c297 : ¬ (x291 < (l1.length : Int)) := c297
        refine wpRwI 39 (x := (decide (x291 < (l1.length : Int)))) (v := false) (by kernel_rfl) (decide_eq_false c297) ?_
        refine condF (by kernel_rfl) ?_
        refine wp_exit ?_
        refine hx271 _ _ ?_
        exact J358 f280 A286 c287 s288 cell285 (fun i_ => [(j284 0), Value.int .i64 x291, Value.bool false, (j284 2), (j284 3), (j284 4), (j284 5), (j284 6), (j284 7), (j284 8), (j284 9), (j284 10), (j284 11), (j284 12)].getD i_ undef) W282 _ L281 h HS283 HO289 (by kernel_rfl)
    · have c252 : ¬ (x240 < (((rd l1 0).At).length : Int)) := c252
      refine wpRwI 34 (x := (decide (x240 < (((rd l1 0).At).length : Int)))) (v := false) (by kernel_rfl) (decide_eq_false c252) ?_
      refine condF (by kernel_rfl) ?_
      refine wp_exit ?_
      refine hx53 _ _ ?_
      exact J423 f235 A242 c243 s244 x241 (fun i_ => [(j239 0), (j239 1), (j239 2), Value.int .i64 x240, Value.bool false, (j239 4), (j239 5), (j239 6), (j239 7), (j239 8), (j239 9), (j239 10), (j239 11), (j239 12), (j239 13), (j239 14), (j239 15), (j239 16), (j239 17), (j239 18), (j239 19), (j239 20), (j239 21), (j239 22), (j239 23), (j239 24), (j239 25), (j239 26), (j239 27), (j239 28)].getD i_ undef) W237 _ L236 h HS238 HO245 (by kernel_rfl)

set_option maxRecDepth 100000 in
set_option maxHeartbeats 4000000 in
theorem slices_Clone_Cells.calls (k : Nat) (A2 : Option Addr) (c3 : Nat) (s1 : List S_Cells) {t w : World} {f : FM} {H : List Seg} (HS : St t w f (H)) (HR4 : SlR ty_Cells f A2 c3 s1) (r1 : List S_Cells) (h : slices_Clone_Cells k s1 = some r1) :
    Calls Try.prog 14 #[.slice A2 s1.length c3] w (fun e w' => ∃ (g : FM) (A31 : Option Addr) (c32 : Nat) (s33 : Seg), e = .returned (Value.slice A31 r1.length c32) ∧ FM.le f g ∧ St t w' g (s33 :: H) ∧ Own ty_Cells 34 g A31 c32 s33 r1) := by
  unfold slices_Clone_Cells at h
  refine enter Try.func14 rfl (tm := #[.slice A2 s1.length c3, undef, undef, undef, undef, undef, undef, undef]) (by kernel_rfl) ?_
  intro B hret hnor hnp
  refine wp_seq_k (fun K5 hK6 => ?_)
  refine wp_region_lit ?_
  refine seqS1 (a' := ⟨#[.slice A2 s1.length c3, undef, .slice none 0 0, undef, undef, undef, undef, undef], []⟩) (by kernel_rfl) ?_
  refine wpList_nil ?_
  refine hK6 _ _ ?_
  refine wp_seq_k (fun K7 hK8 => ?_)
  refine wp_seq_k (fun K9 hK10 => ?_)
  refine wp_region_lit ?_
  refine seqS1 (a' := ⟨#[.slice A2 s1.length c3, undef, .slice none 0 0, .slice A2 s1.length c3, undef, undef, undef, undef], []⟩) (by kernel_rfl) ?_
  obtain _ | ad11 := A2
  · obtain rfl := HR4.nil_eq
    have hq_ := guard_some h; clear h; obtain ⟨_, h⟩ := hq_
    refine seqS1 (a' := ⟨#[.slice none ([] : List S_Cells).length c3, undef, .slice none 0 0, .slice none ([] : List S_Cells).length c3, .bool true, undef, undef, undef], []⟩) (by kernel_rfl) ?_
    refine wpList_nil ?_
    refine hK10 _ _ ?_
    refine condT (by kernel_rfl) ?_
    refine wp_seq_k (fun K27 hK28 => ?_)
    refine wp_region_lit ?_
    refine seqS1 (a' := ⟨#[.slice none ([] : List S_Cells).length c3, undef, .slice none 0 0, .slice none ([] : List S_Cells).length c3, .bool true, undef, undef, undef], []⟩) (by kernel_rfl) ?_
    refine wpList_nil ?_
    refine hK28 _ _ ?_
    refine wp_ret ?_
    refine hret _ _ ?_
    have HS29 := HS.cons_nil
    refine ends_still (v := Value.slice none 0 0) (by kernel_rfl) (by kernel_rfl) ?_
    injection h with h
    subst h
    exact ⟨f, none, 0, [], rfl, FM.le.refl _, HS29, (Own.nil _)⟩
  · refine seqS1 (a' := ⟨#[.slice (some ad11) s1.length c3, undef, .slice none 0 0, .slice (some ad11) s1.length c3, .bool false, undef, undef, undef], []⟩) (by kernel_rfl) ?_
    refine wpList_nil ?_
    refine hK10 _ _ ?_
    refine condF (by kernel_rfl) ?_
    refine wp_skip ?_
    refine hK8 _ _ ?_
    refine wp_seq_k (fun K12 hK13 => ?_)
    refine wp_region_lit ?_
    refine seqK rfl (does_lit (e := ty_Cells) (E := 34) (vs := #[]) (cs := #[]) (xs := ([] : List S_Cells)) rfl Try.underlying27 (by kernel_rfl) (by kernel_rfl) rfl rfl HS ?_ (by decide))
    intro b14 W15 s16 HS17 _ HO18
    have hq_ := guard_some h; clear h; obtain ⟨c20, h⟩ := hq_
    have c20 : (([] : List S_Cells).length + s1.length) * 40 ≤ 140737488355328 := c20
    refine seqL1 (by kernel_rfl) ?_
    refine seqK rfl (does_append (e := ty_Cells) (E := 34) (xs := ([] : List S_Cells)) (ys := s1) rfl (by kernel_rfl : _ = Value.slice (some ⟨b14, 0, none⟩) ([] : List S_Cells).length 0) (by kernel_rfl : _ = Value.slice (some ad11) s1.length c3) Try.underlying27 inf34 HO18 HS17 (HR4.rc HS17) c20 (lim63 c20 (by decide)) ?_)
    intro A21 c22 s23 W24 HS25 HO26
    refine seqS1 (a' := ⟨#[.slice (some ad11) s1.length c3, undef, .slice A21 (([] : List S_Cells) ++ s1).length c22, .slice (some ad11) s1.length c3, .bool false, .slice (some ⟨b14, 0, none⟩) ([] : List S_Cells).length 0, .slice (some ad11) s1.length c3, .slice A21 (([] : List S_Cells) ++ s1).length c22], []⟩) (by kernel_rfl) ?_
    refine wpList_nil ?_
    refine hK13 _ _ ?_
    refine wp_ret ?_
    refine hret _ _ ?_
    refine ends_still (v := Value.slice A21 (([] : List S_Cells) ++ s1).length c22) (by kernel_rfl) (by kernel_rfl) ?_
    injection h with h
    subst h
    exact ⟨f, A21, c22, s23, rfl, FM.le.refl _, HS25, HO26⟩

set_option maxRecDepth 100000 in
set_option maxHeartbeats 4000000 in
theorem slices_Reverse_Cells.calls (k : Nat) (A1 : Option Addr) (c2 : Nat) (s3 : Seg) (s5 : List S_Cells) {t w : World} {f : FM} {H : List Seg} (HS : St t w f (s3 :: H)) (HO4 : Own ty_Cells 34 f A1 c2 s3 s5) (r1 : List S_Cells) (h : slices_Reverse_Cells k s5 = some r1) :
    Calls Try.prog 15 #[.slice A1 s5.length c2] w (fun e w' => ∃ (g : FM) (s155 : Seg), e = .returned (Value.tuple #[]) ∧ FM.le f g ∧ St t w' g (s155 :: H) ∧ Own ty_Cells 34 g A1 c2 s155 r1 ∧ r1.length = s5.length) := by
  unfold slices_Reverse_Cells at h
  refine enter Try.func15 rfl (tm := #[.slice A1 s5.length c2, undef, undef, undef, undef, undef, undef, undef, undef, undef, undef, undef, undef, undef, undef, undef, undef, undef, undef, undef, undef, undef, undef, undef, undef, undef, undef, undef]) (by kernel_rfl) ?_
  intro B hret hnor hnp
  refine wp_seq_k (fun K7 hK8 => ?_)
  refine wp_region_lit ?_
  refine seqS5 (a' := ⟨#[.slice A1 s5.length c2, undef, .int .i64 0, .int .i64 (w64 ((s5.length : Int) - 1)), .slice A1 s5.length c2, .int .i64 (s5.length : Int), .int .i64 (w64 ((s5.length : Int) - 1)), undef, undef, undef, undef, undef, undef, undef, undef, undef, undef, undef, undef, undef, undef, undef, undef, undef, undef, undef, undef, undef], []⟩) (by kernel_rfl) ?_
  refine wpList_nil ?_
  refine hK8 _ _ ?_
  refine blockK (fun B9 hx10 hn11 hr12 ho13 hp14 => ?_)
  have hq_ := bind_some h; clear h; obtain ⟨o77, hv152, h⟩ := hq_
  have J153 : ∀ (f143 : FM) (s149 : Seg) (s148 : List S_Cells) (j147 : Nat → Value) (W145 : World) (a_ : Act), FM.le f f143 → some (s148) = some o77 → St t W145 f143 (s149 :: H) → Own ty_Cells 34 f143 A1 c2 s149 s148 → s148.length = s5.length → a_ = ⟨#[.slice A1 s148.length c2, undef, (j147 0), (j147 1), (j147 2), .int .i64 (s5.length : Int), .int .i64 (w64 ((s5.length : Int) - 1)), (j147 3), (j147 4), (j147 5), (j147 6), (j147 7), (j147 8), (j147 9), (j147 10), (j147 11), (j147 12), (j147 13), (j147 14), (j147 15), (j147 16), (j147 17), (j147 18), (j147 19), (j147 20), (j147 21), (j147 22), (j147 23)], []⟩ → B Exit.normal a_ W145 := by
    intro f143 s149 s148 j147 W145 a_ L144 hj154 HS146 HO150 HL151 hfr_; subst hfr_
    injection hj154 with hj154; subst hj154; try dsimp only at h
    refine hnor _ _ ?_
    refine ends_still (v := Value.tuple #[]) (by kernel_rfl) (by kernel_rfl) ?_
    injection h with h
    subst h
    exact ⟨f143, s149, rfl, L144, HS146, HO150, HL151⟩
  clear h; have h := hv152; clear hv152
  refine loopK (fun n_ a_ w_ => ∃ (f81 : FM) (s87 : Seg) (s86 : List S_Cells) (i90 : Int) (j91 : Int) (j85 : Nat → Value), FM.le f f81 ∧ St t w_ f81 (s87 :: H) ∧ Own ty_Cells 34 f81 A1 c2 s87 s86 ∧ s86.length = s5.length ∧ slices_Reverse_Cells.l0 k n_ s86 i90 j91 = some o77 ∧ a_ = ⟨#[.slice A1 s86.length c2, undef, .int .i64 i90, .int .i64 j91, .slice A1 s5.length c2, .int .i64 (s5.length : Int), .int .i64 (w64 ((s5.length : Int) - 1)), (j85 0), (j85 1), (j85 2), (j85 3), (j85 4), (j85 5), (j85 6), (j85 7), (j85 8), (j85 9), (j85 10), (j85 11), (j85 12), (j85 13), (j85 14), (j85 15), (j85 16), (j85 17), (j85 18), (j85 19), (j85 20)], []⟩) k ⟨f, s3, s5, 0, (w64 ((s5.length : Int) - 1)), (fun i_ => [undef, undef, undef, undef, undef, undef, undef, undef, undef, undef, undef, undef, undef, undef, undef, undef, undef, undef, undef, undef, undef].getD i_ undef), (FM.le.refl _), HS, HO4, rfl, h, (by kernel_rfl)⟩ ?_
  clear h
  rintro n80 _ W83 ⟨f81, s87, s86, i90, j91, j85, L82, HS84, HO88, HL89, h, rfl⟩ K78 hK79
  obtain _ | n80 := n80
  · exact nomatch h
  simp only [slices_Reverse_Cells.l0] at h
  refine wp_seq_k (fun K92 hK93 => ?_)
  refine wp_seq_k (fun K94 hK95 => ?_)
  refine wp_region_lit ?_
  refine seqS3 (a' := ⟨#[.slice A1 s86.length c2, undef, .int .i64 i90, .int .i64 j91, .slice A1 s5.length c2, .int .i64 (s5.length : Int), .int .i64 (w64 ((s5.length : Int) - 1)), .int .i64 i90, .int .i64 j91, .bool (decide (i90 < j91)), (j85 3), (j85 4), (j85 5), (j85 6), (j85 7), (j85 8), (j85 9), (j85 10), (j85 11), (j85 12), (j85 13), (j85 14), (j85 15), (j85 16), (j85 17), (j85 18), (j85 19), (j85 20)], []⟩) (by kernel_rfl) ?_
  refine wpList_nil ?_
  refine hK95 _ _ ?_
  have hq_ := ite_some h; clear h; rcases hq_ with ⟨c97, h⟩ | ⟨c97, h⟩
  · have c97 : i90 < j91 := c97
    refine wpRwI 9 (x := (decide (i90 < j91))) (v := true) (by kernel_rfl) (decide_eq_true c97) ?_
    refine condT (by kernel_rfl) ?_
    refine wp_skip ?_
    refine hK93 _ _ ?_
    refine wp_seq_k (fun K98 hK99 => ?_)
    refine blockK (fun B100 hx101 hn102 hr103 ho104 hp105 => ?_)
    refine heldG (S := Sg t f81 (H) [(13, s87)]) (n := 16) (by kernel_rfl) rfl HS84 ?_
    intro W107 HS108
    have hq_ := guard_some h; clear h; obtain ⟨c109, h⟩ := hq_
    have c109 : 0 ≤ j91 := c109
    have hq_ := guard_some h; clear h; obtain ⟨c110, h⟩ := hq_
    have c110 : j91 < (s86.length : Int) := c110
    obtain ⟨b114, of115, cs111, hA116, hr112, hc113⟩ := HO88.at (i := j91) c109 c110
    obtain ⟨A117, c117, rfl, HR117⟩ := hr112
    refine takeG [0, 1, 2, 3, 4, 5] (n := 16) (fuel := 10) (l' := #[true, true, true, true, true, true, false, false, false, false, false, false, false, false, false, false]) (a' := ⟨#[.slice A1 s86.length c2, undef, .int .i64 i90, .int .i64 j91, .slice A1 s5.length c2, .int .i64 (s5.length : Int), .int .i64 (w64 ((s5.length : Int) - 1)), .int .i64 i90, .int .i64 j91, .bool true, (j85 3), (j85 4), (j85 5), (j85 6), .slice A1 s86.length c2, .int .i64 i90, .slice A1 s86.length c2, .int .i64 j91, .slice A1 s86.length c2, .int .i64 j91, (j85 13), (j85 14), (j85 15), (j85 16), (j85 17), (j85 18), (j85 19), (j85 20)], []⟩) rfl (by kernel_rfl) (by kernel_rfl) (by kernel_rfl) (fun ch_ a_ w_ q_ => (fun ch_ a_ w_ q_ => hnp ch_ a_ w_ (hp14 ch_ a_ w_ q_)) ch_ a_ w_ (hp105 ch_ a_ w_ q_)) (Sg.g1 (Sx.of [s87] (FM.le.refl _) HS108) (fun _ => St.only [] HS108 (FM.le.refl _))) ?_
    refine takeGQ 6 [] rfl (by kernel_rfl) (by kernel_rfl) (by kernel_rfl) (by kernel_rfl) (by kernel_rfl) (by kernel_rfl) (fun ch_ a_ w_ q_ => (fun ch_ a_ w_ q_ => hnp ch_ a_ w_ (hp14 ch_ a_ w_ q_)) ch_ a_ w_ (hp105 ch_ a_ w_ q_)) (Sg.g1 (Sx.of [s87] (FM.le.refl _) HS108) (fun _ => St.only [] HS108 (FM.le.refl _))) (fun w_ hw_ => by obtain ⟨g_, hl_, hS_⟩ := hw_.st; exact run_indexE hA116 (sz := 3) rfl Try.underlying27 (by kernel_rfl) (by kernel_rfl : _ = Value.slice A1 s86.length c2) (by kernel_rfl : _ = Value.int .i64 j91) c109 c110 w_) ?_
    refine takeGQ 7 [13] rfl (by kernel_rfl) (by kernel_rfl) (by kernel_rfl) (by kernel_rfl) (by kernel_rfl) (by kernel_rfl) (fun ch_ a_ w_ q_ => (fun ch_ a_ w_ q_ => hnp ch_ a_ w_ (hp14 ch_ a_ w_ q_)) ch_ a_ w_ (hp105 ch_ a_ w_ q_)) (Sg.g1 (Sx.of [s87] (FM.le.refl _) HS108) (fun _ => St.only [] HS108 (FM.le.refl _))) (fun w_ hw_ => by obtain ⟨g_, hl_, hS_⟩ := hw_.seg (j := 13) (s := s87) (by simp) (by simp); exact run_loadN (n := 3) rfl Try.underlying34 rfl (by kernel_rfl) (by kernel_rfl : _ = Value.pointer (some ⟨b114, of115 + (j91 : Int).toNat * 3, none⟩)) (cs := [.int .i64 ((rd s86 j91).W), .int .i64 ((rd s86 j91).H), .slice A117 ((rd s86 j91).At).length c117]) rfl (fun j_ hj_ => ((hc113 hS_) j_ hj_))) ?_
    have hq_ := guard_some h; clear h; obtain ⟨c118, h⟩ := hq_
    have c118 : 0 ≤ i90 := c118
    have hq_ := guard_some h; clear h; obtain ⟨c119, h⟩ := hq_
    have c119 : i90 < (s86.length : Int) := c119
    obtain ⟨b123, of124, cs120, hA125, hr121, hc122⟩ := HO88.at (i := i90) c118 c119
    obtain ⟨A126, c126, rfl, HR126⟩ := hr121
    refine takeG [8, 9] (n := 8) (fuel := 6) (l' := #[true, true, true, true, true, true, true, true, true, true, false, false, false, false, false, false]) (a' := ⟨#[.slice A1 s86.length c2, undef, .int .i64 i90, .int .i64 j91, .slice A1 s5.length c2, .int .i64 (s5.length : Int), .int .i64 (w64 ((s5.length : Int) - 1)), .int .i64 i90, .int .i64 j91, .bool true, (j85 3), (j85 4), (j85 5), (j85 6), .slice A1 s86.length c2, .int .i64 i90, .slice A1 s86.length c2, .int .i64 j91, .slice A1 s86.length c2, .int .i64 j91, .pointer (some ⟨b114, of115 + (j91 : Int).toNat * 3, none⟩), .agg #[.int .i64 ((rd s86 j91).W), .int .i64 ((rd s86 j91).H), .slice A117 ((rd s86 j91).At).length c117], .slice A1 s86.length c2, .int .i64 i90, (j85 17), (j85 18), (j85 19), (j85 20)], []⟩) rfl (by kernel_rfl) (by kernel_rfl) (by kernel_rfl) (fun ch_ a_ w_ q_ => (fun ch_ a_ w_ q_ => hnp ch_ a_ w_ (hp14 ch_ a_ w_ q_)) ch_ a_ w_ (hp105 ch_ a_ w_ q_)) (Sg.g1 (Sx.of [s87] (FM.le.refl _) HS108) (fun _ => St.only [] HS108 (FM.le.refl _))) ?_
    refine takeGQ 10 [] rfl (by kernel_rfl) (by kernel_rfl) (by kernel_rfl) (by kernel_rfl) (by kernel_rfl) (by kernel_rfl) (fun ch_ a_ w_ q_ => (fun ch_ a_ w_ q_ => hnp ch_ a_ w_ (hp14 ch_ a_ w_ q_)) ch_ a_ w_ (hp105 ch_ a_ w_ q_)) (Sg.g1 (Sx.of [s87] (FM.le.refl _) HS108) (fun _ => St.only [] HS108 (FM.le.refl _))) (fun w_ hw_ => by obtain ⟨g_, hl_, hS_⟩ := hw_.st; exact run_indexE hA125 (sz := 3) rfl Try.underlying27 (by kernel_rfl) (by kernel_rfl : _ = Value.slice A1 s86.length c2) (by kernel_rfl : _ = Value.int .i64 i90) c118 c119 w_) ?_
    refine takeGQ 11 [13] rfl (by kernel_rfl) (by kernel_rfl) (by kernel_rfl) (by kernel_rfl) (by kernel_rfl) (by kernel_rfl) (fun ch_ a_ w_ q_ => (fun ch_ a_ w_ q_ => hnp ch_ a_ w_ (hp14 ch_ a_ w_ q_)) ch_ a_ w_ (hp105 ch_ a_ w_ q_)) (Sg.g1 (Sx.of [s87] (FM.le.refl _) HS108) (fun _ => St.only [] HS108 (FM.le.refl _))) (fun w_ hw_ => by obtain ⟨g_, hl_, hS_⟩ := hw_.seg (j := 13) (s := s87) (by simp) (by simp); exact run_loadN (n := 3) rfl Try.underlying34 rfl (by kernel_rfl) (by kernel_rfl : _ = Value.pointer (some ⟨b123, of124 + (i90 : Int).toNat * 3, none⟩)) (cs := [.int .i64 ((rd s86 i90).W), .int .i64 ((rd s86 i90).H), .slice A126 ((rd s86 i90).At).length c126]) rfl (fun j_ hj_ => ((hc122 hS_) j_ hj_))) ?_
    refine takeGQ 12 [] rfl (by kernel_rfl) (by kernel_rfl) (by kernel_rfl) (by kernel_rfl) (by kernel_rfl) (by kernel_rfl) (fun ch_ a_ w_ q_ => (fun ch_ a_ w_ q_ => hnp ch_ a_ w_ (hp14 ch_ a_ w_ q_)) ch_ a_ w_ (hp105 ch_ a_ w_ q_)) (Sg.g1 (Sx.of [s87] (FM.le.refl _) HS108) (fun _ => St.only [] HS108 (FM.le.refl _))) (fun w_ hw_ => by obtain ⟨g_, hl_, hS_⟩ := hw_.st; exact run_indexE hA125 (sz := 3) rfl Try.underlying27 (by kernel_rfl) (by kernel_rfl : _ = Value.slice A1 s86.length c2) (by kernel_rfl : _ = Value.int .i64 i90) c118 c119 w_) ?_
    refine takeGE 13 (by kernel_rfl) rfl (by kernel_rfl) (does_put (e := ty_Cells) (E := 34) (vs := [.int .i64 ((rd s86 j91).W), .int .i64 ((rd s86 j91).H), .slice A117 ((rd s86 j91).At).length c117]) (u := (rd s86 j91)) (i := i90) rfl (by kernel_rfl) HO88 HS108 hA125 (by kernel_rfl : _ = Value.pointer (some ⟨b123, of124 + (i90 : Int).toNat * 3, none⟩)) (by kernel_rfl : _ = Value.agg #[.int .i64 ((rd s86 j91).W), .int .i64 ((rd s86 j91).H), .slice A117 ((rd s86 j91).At).length c117]) rfl ⟨A117, c117, rfl, HR117⟩ c118 c119 ?_)
    intro W127 s128 HS129 HO130
    refine ⟨(Sg.g1 (Sx.of [s128] (FM.le.refl _) HS129) (fun hl_ => Bool.noConfusion (show true = false from hl_))), ?_⟩
    refine gateRwS 0 (A := A1) (m := s86.length) (n := (s86.set (i90).toNat (rd s86 j91)).length) (c := c2) (by kernel_rfl) (List.length_set).symm ?_
    refine gateRwS 14 (A := A1) (m := s86.length) (n := (s86.set (i90).toNat (rd s86 j91)).length) (c := c2) (by kernel_rfl) (List.length_set).symm ?_
    refine gateRwS 16 (A := A1) (m := s86.length) (n := (s86.set (i90).toNat (rd s86 j91)).length) (c := c2) (by kernel_rfl) (List.length_set).symm ?_
    refine gateRwS 18 (A := A1) (m := s86.length) (n := (s86.set (i90).toNat (rd s86 j91)).length) (c := c2) (by kernel_rfl) (List.length_set).symm ?_
    refine gateRwS 22 (A := A1) (m := s86.length) (n := (s86.set (i90).toNat (rd s86 j91)).length) (c := c2) (by kernel_rfl) (List.length_set).symm ?_
    have hq_ := guard_some h; clear h; obtain ⟨c131, h⟩ := hq_
    have c131 : j91 < ((s86.set (i90).toNat (rd s86 j91)).length : Int) := c131
    obtain ⟨b135, of136, cs132, hA137, hr133, hc134⟩ := HO130.at (i := j91) c109 c131
    obtain ⟨A138, c138, rfl, HR138⟩ := hr133
    refine takeGQ 14 [] rfl (by kernel_rfl) (by kernel_rfl) (by kernel_rfl) (by kernel_rfl) (by kernel_rfl) (by kernel_rfl) (fun ch_ a_ w_ q_ => (fun ch_ a_ w_ q_ => hnp ch_ a_ w_ (hp14 ch_ a_ w_ q_)) ch_ a_ w_ (hp105 ch_ a_ w_ q_)) (Sg.g1 (Sx.of [s128] (FM.le.refl _) HS129) (fun hl_ => Bool.noConfusion (show true = false from hl_))) (fun w_ hw_ => by obtain ⟨g_, hl_, hS_⟩ := hw_.st; exact run_indexE hA137 (sz := 3) rfl Try.underlying27 (by kernel_rfl) (by kernel_rfl : _ = Value.slice A1 (s86.set (i90).toNat (rd s86 j91)).length c2) (by kernel_rfl : _ = Value.int .i64 j91) c109 c131 w_) ?_
    refine takeGE 15 (by kernel_rfl) rfl (by kernel_rfl) (does_put (e := ty_Cells) (E := 34) (vs := [.int .i64 ((rd s86 i90).W), .int .i64 ((rd s86 i90).H), .slice A126 ((rd s86 i90).At).length c126]) (u := (rd s86 i90)) (i := j91) rfl (by kernel_rfl) HO130 HS129 hA137 (by kernel_rfl : _ = Value.pointer (some ⟨b135, of136 + (j91 : Int).toNat * 3, none⟩)) (by kernel_rfl : _ = Value.agg #[.int .i64 ((rd s86 i90).W), .int .i64 ((rd s86 i90).H), .slice A126 ((rd s86 i90).At).length c126]) rfl ⟨A126, c126, rfl, HR126⟩ c109 c131 ?_)
    intro W139 s140 HS141 HO142
    refine ⟨(Sg.g1 (Sx.of [s140] (FM.le.refl _) HS141) (fun hl_ => Bool.noConfusion (show true = false from hl_))), ?_⟩
    refine gateRwS 0 (A := A1) (m := (s86.set (i90).toNat (rd s86 j91)).length) (n := ((s86.set (i90).toNat (rd s86 j91)).set (j91).toNat (rd s86 i90)).length) (c := c2) (by kernel_rfl) (List.length_set).symm ?_
    refine gateRwS 14 (A := A1) (m := (s86.set (i90).toNat (rd s86 j91)).length) (n := ((s86.set (i90).toNat (rd s86 j91)).set (j91).toNat (rd s86 i90)).length) (c := c2) (by kernel_rfl) (List.length_set).symm ?_
    refine gateRwS 16 (A := A1) (m := (s86.set (i90).toNat (rd s86 j91)).length) (n := ((s86.set (i90).toNat (rd s86 j91)).set (j91).toNat (rd s86 i90)).length) (c := c2) (by kernel_rfl) (List.length_set).symm ?_
    refine gateRwS 18 (A := A1) (m := (s86.set (i90).toNat (rd s86 j91)).length) (n := ((s86.set (i90).toNat (rd s86 j91)).set (j91).toNat (rd s86 i90)).length) (c := c2) (by kernel_rfl) (List.length_set).symm ?_
    refine gateRwS 22 (A := A1) (m := (s86.set (i90).toNat (rd s86 j91)).length) (n := ((s86.set (i90).toNat (rd s86 j91)).set (j91).toNat (rd s86 i90)).length) (c := c2) (by kernel_rfl) (List.length_set).symm ?_
    refine doneG (by kernel_rfl) ?_ _
    refine hn102 _ _ ?_
    refine hK99 _ _ ?_
    refine wp_region_lit ?_
    refine seqS6 (a' := ⟨#[.slice A1 ((s86.set (i90).toNat (rd s86 j91)).set (j91).toNat (rd s86 i90)).length c2, undef, .int .i64 (w64 (i90 + 1)), .int .i64 (w64 (j91 - 1)), .slice A1 s5.length c2, .int .i64 (s5.length : Int), .int .i64 (w64 ((s5.length : Int) - 1)), .int .i64 i90, .int .i64 j91, .bool true, .int .i64 i90, .int .i64 (w64 (i90 + 1)), .int .i64 j91, .int .i64 (w64 (j91 - 1)), .slice A1 ((s86.set (i90).toNat (rd s86 j91)).set (j91).toNat (rd s86 i90)).length c2, .int .i64 i90, .slice A1 ((s86.set (i90).toNat (rd s86 j91)).set (j91).toNat (rd s86 i90)).length c2, .int .i64 j91, .slice A1 ((s86.set (i90).toNat (rd s86 j91)).set (j91).toNat (rd s86 i90)).length c2, .int .i64 j91, .pointer (some ⟨b114, of115 + (j91 : Int).toNat * 3, none⟩), .agg #[.int .i64 ((rd s86 j91).W), .int .i64 ((rd s86 j91).H), .slice A117 ((rd s86 j91).At).length c117], .slice A1 ((s86.set (i90).toNat (rd s86 j91)).set (j91).toNat (rd s86 i90)).length c2, .int .i64 i90, .pointer (some ⟨b123, of124 + (i90 : Int).toNat * 3, none⟩), .agg #[.int .i64 ((rd s86 i90).W), .int .i64 ((rd s86 i90).H), .slice A126 ((rd s86 i90).At).length c126], .pointer (some ⟨b123, of124 + (i90 : Int).toNat * 3, none⟩), .pointer (some ⟨b135, of136 + (j91 : Int).toNat * 3, none⟩)], []⟩) (by kernel_rfl) ?_
    refine wpList_nil ?_
    refine hK79 n80 _ _ (Nat.lt_succ_self _) ?_
    exact ⟨f81, s140, ((s86.set (i90).toNat (rd s86 j91)).set (j91).toNat (rd s86 i90)), (w64 (i90 + 1)), (w64 (j91 - 1)), (fun i_ => [Value.int .i64 i90, Value.int .i64 j91, Value.bool true, Value.int .i64 i90, Value.int .i64 (w64 (i90 + 1)), Value.int .i64 j91, Value.int .i64 (w64 (j91 - 1)), Value.slice A1 ((s86.set (i90).toNat (rd s86 j91)).set (j91).toNat (rd s86 i90)).length c2, Value.int .i64 i90, Value.slice A1 ((s86.set (i90).toNat (rd s86 j91)).set (j91).toNat (rd s86 i90)).length c2, Value.int .i64 j91, Value.slice A1 ((s86.set (i90).toNat (rd s86 j91)).set (j91).toNat (rd s86 i90)).length c2, Value.int .i64 j91, Value.pointer (some ⟨b114, of115 + (j91 : Int).toNat * 3, none⟩), Value.agg #[.int .i64 ((rd s86 j91).W), .int .i64 ((rd s86 j91).H), .slice A117 ((rd s86 j91).At).length c117], Value.slice A1 ((s86.set (i90).toNat (rd s86 j91)).set (j91).toNat (rd s86 i90)).length c2, Value.int .i64 i90, Value.pointer (some ⟨b123, of124 + (i90 : Int).toNat * 3, none⟩), Value.agg #[.int .i64 ((rd s86 i90).W), .int .i64 ((rd s86 i90).H), .slice A126 ((rd s86 i90).At).length c126], Value.pointer (some ⟨b123, of124 + (i90 : Int).toNat * 3, none⟩), Value.pointer (some ⟨b135, of136 + (j91 : Int).toNat * 3, none⟩)].getD i_ undef), L82, HS141, HO142, (List.length_set.trans (List.length_set.trans HL89)), h, (by kernel_rfl)⟩
  · have c97 : ¬ (i90 < j91) := c97
    refine wpRwI 9 (x := (decide (i90 < j91))) (v := false) (by kernel_rfl) (decide_eq_false c97) ?_
    refine condF (by kernel_rfl) ?_
    refine wp_exit ?_
    refine hx10 _ _ ?_
    exact J153 f81 s87 s86 (fun i_ => [Value.int .i64 i90, Value.int .i64 j91, Value.slice A1 s5.length c2, Value.int .i64 i90, Value.int .i64 j91, Value.bool false, (j85 3), (j85 4), (j85 5), (j85 6), (j85 7), (j85 8), (j85 9), (j85 10), (j85 11), (j85 12), (j85 13), (j85 14), (j85 15), (j85 16), (j85 17), (j85 18), (j85 19), (j85 20)].getD i_ undef) W83 _ L82 h HS84 HO88 HL89 (by kernel_rfl)

end Go.Sp.V3
