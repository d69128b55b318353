import Derived.Test.YtjibamedpdpofaaProg
import Derived.Test.YtjibamedpdpofaaSpCopy
import Derived.Test.YtjibamedpdpofaaFQ9
import Derived.Test.YtjibamedpdpofaaSpSort
import Derived.Test.YtjibamedpdpofaaShelf
namespace Go.Sp.Q9
open Go Go.Sp Go.Proofs
set_option linter.unusedVariables false
attribute [local irreducible] wpList AnyL Code.wp Calls Does
def ty_Bound : Ty S_Bound where
  sz := 3
  rep := fun f cs x => cs = [.int .i64 x.Lo, .int .i64 x.Hi, .bool x.Unknown]
  pos := by decide
  len := by rintro f cs x rfl; rfl
  mono := by rintro f g cs x hl rfl; exact rfl
  one := by
    rintro f cs x rfl v hv
    simp only [List.mem_cons, List.not_mem_nil, or_false] at hv
    rcases hv with rfl | rfl | rfl <;> rfl
theorem inf3 : Inf Try.prog 3 1 8 (.int .i64 0) := .mk' (by kernel_rfl) rfl

set_option maxRecDepth 100000 in
set_option maxHeartbeats 4000000 in
theorem spymake_Below.calls (k : Nat)  (x1 : Int) (n2 : Int) {t w : World} {f : FM} {H : List Seg} (HS : St t w f (H)) (r1 : Int) (h : spymake_Below k x1 n2 = some r1) :
    Calls Try.prog 24 #[.int .i64 x1, .int .i64 n2] w (fun e w' => ∃ (g : FM), e = .returned (Value.int .i64 r1) ∧ FM.le f g ∧ St t w' g (H)) := by
  unfold spymake_Below at h
  refine enter Try.func24 rfl (tm := #[.int .i64 x1, .int .i64 n2, undef, undef, undef, undef, undef, undef, undef, undef, undef, undef, undef, undef, undef, undef]) (by kernel_rfl) ?_
  intro B hret hnor hnp
  refine wp_seq_k (fun K3 hK4 => ?_)
  refine wp_region_lit ?_
  refine seqS1 (a' := ⟨#[.int .i64 x1, .int .i64 n2, undef, undef, .int .i64 0, undef, undef, undef, undef, undef, undef, undef, undef, undef, undef, undef], []⟩) (by kernel_rfl) ?_
  refine wpList_nil ?_
  refine hK4 _ _ ?_
  refine wp_seq_k (fun K5 hK6 => ?_)
  refine wp_seq_k (fun K7 hK8 => ?_)
  refine wp_region_lit ?_
  refine seqS2 (a' := ⟨#[.int .i64 x1, .int .i64 n2, undef, undef, .int .i64 0, .int .i64 n2, .bool (decide (n2 < 1)), undef, undef, undef, undef, undef, undef, undef, undef, undef], []⟩) (by kernel_rfl) ?_
  refine wpList_nil ?_
  refine hK8 _ _ ?_
  have hq_ := ite_some h; clear h; rcases hq_ with ⟨c10, h⟩ | ⟨c10, h⟩
  · have c10 : n2 < 1 := c10
    refine wpRwI 6 (x := (decide (n2 < 1))) (v := true) (by kernel_rfl) (decide_eq_true c10) ?_
    refine condT (by kernel_rfl) ?_
    refine wp_seq_k (fun K11 hK12 => ?_)
    refine wp_region_lit ?_
    refine seqS1 (a' := ⟨#[.int .i64 x1, .int .i64 n2, undef, undef, .int .i64 0, .int .i64 n2, .bool true, undef, undef, undef, undef, undef, undef, undef, undef, undef], []⟩) (by kernel_rfl) ?_
    refine wpList_nil ?_
    refine hK12 _ _ ?_
    refine wp_ret ?_
    refine hret _ _ ?_
    refine ends_still (v := Value.int .i64 0) (by kernel_rfl) (by kernel_rfl) ?_
    injection h with h
    subst h
    exact ⟨f, rfl, FM.le.refl _, HS⟩
  · have c10 : ¬ (n2 < 1) := c10
    refine wpRwI 6 (x := (decide (n2 < 1))) (v := false) (by kernel_rfl) (decide_eq_false c10) ?_
    refine condF (by kernel_rfl) ?_
    refine wp_skip ?_
    refine hK6 _ _ ?_
    refine wp_seq_k (fun K13 hK14 => ?_)
    refine wp_region_lit ?_
    have hq_ := guard_some h; clear h; obtain ⟨c15, h⟩ := hq_
    have c15 : ¬ (n2 = 0) := c15
    refine seqL2 (by kernel_rfl) ?_
    refine seqK rfl (does_run (run_rem rfl (by kernel_rfl : _ = Value.int .i64 x1) (by kernel_rfl : _ = Value.int .i64 n2) c15 w) ?_)
    refine seqS1 (a' := ⟨#[.int .i64 (Int.tmod x1 n2), .int .i64 n2, undef, undef, .int .i64 0, .int .i64 n2, .bool false, .int .i64 x1, .int .i64 n2, .int .i64 (Int.tmod x1 n2), undef, undef, undef, undef, undef, undef], []⟩) (by kernel_rfl) ?_
    refine wpList_nil ?_
    refine hK14 _ _ ?_
    refine wp_seq_k (fun K16 hK17 => ?_)
    refine wp_seq_k (fun K18 hK19 => ?_)
    refine wp_region_lit ?_
    refine seqS2 (a' := ⟨#[.int .i64 (Int.tmod x1 n2), .int .i64 n2, undef, undef, .int .i64 0, .int .i64 n2, .bool false, .int .i64 x1, .int .i64 n2, .int .i64 (Int.tmod x1 n2), .int .i64 (Int.tmod x1 n2), .bool (decide ((Int.tmod x1 n2) < 0)), undef, undef, undef, undef], []⟩) (by kernel_rfl) ?_
    refine wpList_nil ?_
    refine hK19 _ _ ?_
    have hq_ := ite_some h; clear h; rcases hq_ with ⟨c21, h⟩ | ⟨c21, h⟩
    · have c21 : (Int.tmod x1 n2) < 0 := c21
      refine wpRwI 11 (x := (decide ((Int.tmod x1 n2) < 0))) (v := true) (by kernel_rfl) (decide_eq_true c21) ?_
      refine condT (by kernel_rfl) ?_
      refine wp_region_lit ?_
      refine seqS4 (a' := ⟨#[.int .i64 (w64 ((Int.tmod x1 n2) + n2)), .int .i64 n2, undef, undef, .int .i64 0, .int .i64 n2, .bool false, .int .i64 x1, .int .i64 n2, .int .i64 (Int.tmod x1 n2), .int .i64 (Int.tmod x1 n2), .bool true, .int .i64 (Int.tmod x1 n2), .int .i64 n2, .int .i64 (w64 ((Int.tmod x1 n2) + n2)), undef], []⟩) (by kernel_rfl) ?_
      refine wpList_nil ?_
      refine hK17 _ _ ?_
      refine wp_seq_k (fun K22 hK23 => ?_)
      refine wp_region_lit ?_
      refine seqS2 (a' := ⟨#[.int .i64 (w64 ((Int.tmod x1 n2) + n2)), .int .i64 n2, undef, undef, .int .i64 (w64 ((Int.tmod x1 n2) + n2)), .int .i64 n2, .bool false, .int .i64 x1, .int .i64 n2, .int .i64 (Int.tmod x1 n2), .int .i64 (Int.tmod x1 n2), .bool true, .int .i64 (Int.tmod x1 n2), .int .i64 n2, .int .i64 (w64 ((Int.tmod x1 n2) + n2)), .int .i64 (w64 ((Int.tmod x1 n2) + n2))], []⟩) (by kernel_rfl) ?_
      refine wpList_nil ?_
      refine hK23 _ _ ?_
      refine wp_ret ?_
      refine hret _ _ ?_
      refine ends_still (v := Value.int .i64 (w64 ((Int.tmod x1 n2) + n2))) (by kernel_rfl) (by kernel_rfl) ?_
      injection h with h
      subst h
      exact ⟨f, rfl, FM.le.refl _, HS⟩
    · have c21 : ¬ ((Int.tmod x1 n2) < 0) := c21
      refine wpRwI 11 (x := (decide ((Int.tmod x1 n2) < 0))) (v := false) (by kernel_rfl) (decide_eq_false c21) ?_
      refine condF (by kernel_rfl) ?_
      refine wp_skip ?_
      refine hK17 _ _ ?_
      refine wp_seq_k (fun K24 hK25 => ?_)
      refine wp_region_lit ?_
      refine seqS2 (a' := ⟨#[.int .i64 (Int.tmod x1 n2), .int .i64 n2, undef, undef, .int .i64 (Int.tmod x1 n2), .int .i64 n2, .bool false, .int .i64 x1, .int .i64 n2, .int .i64 (Int.tmod x1 n2), .int .i64 (Int.tmod x1 n2), .bool false, undef, undef, undef, .int .i64 (Int.tmod x1 n2)], []⟩) (by kernel_rfl) ?_
      refine wpList_nil ?_
      refine hK25 _ _ ?_
      refine wp_ret ?_
      refine hret _ _ ?_
      refine ends_still (v := Value.int .i64 (Int.tmod x1 n2)) (by kernel_rfl) (by kernel_rfl) ?_
      injection h with h
      subst h
      exact ⟨f, rfl, FM.le.refl _, HS⟩

set_option maxRecDepth 100000 in
set_option maxHeartbeats 4000000 in
theorem quanta_Mix.calls (k : Nat)  (seed1 : Int) (n2 : Int) {t w : World} {f : FM} {H : List Seg} (HS : St t w f (H)) (r1 : Int) (h : quanta_Mix k seed1 n2 = some r1) :
    Calls Try.prog 40 #[.int .u64 seed1, .int .i64 n2] w (fun e w' => ∃ (g : FM), e = .returned (Value.int .u64 r1) ∧ FM.le f g ∧ St t w' g (H)) := by
  unfold quanta_Mix at h
  refine enter Try.func40 rfl (tm := #[.int .u64 seed1, .int .i64 n2, undef, undef, undef, undef, undef, undef, undef, undef, undef, undef, undef, undef, undef, undef, undef, undef, undef, undef, undef, undef, undef, undef, undef, undef]) (by kernel_rfl) ?_
  intro B hret hnor hnp
  refine wp_seq_k (fun K3 hK4 => ?_)
  refine wp_region_lit ?_
  refine seqS1 (a' := ⟨#[.int .u64 seed1, .int .i64 n2, undef, undef, .int .u64 0, undef, undef, undef, undef, undef, undef, undef, undef, undef, undef, undef, undef, undef, undef, undef, undef, undef, undef, undef, undef, undef], []⟩) (by kernel_rfl) ?_
  refine wpList_nil ?_
  refine hK4 _ _ ?_
  refine wp_seq_k (fun K5 hK6 => ?_)
  refine wp_region_lit ?_
  refine seqS7 (a' := ⟨#[.int .u64 seed1, .int .i64 n2, undef, undef, .int .u64 0, .int .u64 (u64 (seed1 + (u64 ((u64 (w64 (n2 + 1))) * 11400714819323198485)))), .int .u64 seed1, .int .i64 n2, .int .i64 (w64 (n2 + 1)), .int .u64 (u64 (w64 (n2 + 1))), .int .u64 (u64 ((u64 (w64 (n2 + 1))) * 11400714819323198485)), .int .u64 (u64 (seed1 + (u64 ((u64 (w64 (n2 + 1))) * 11400714819323198485)))), undef, undef, undef, undef, undef, undef, undef, undef, undef, undef, undef, undef, undef, undef], []⟩) (by kernel_rfl) ?_
  refine wpList_nil ?_
  refine hK6 _ _ ?_
  refine wp_seq_k (fun K7 hK8 => ?_)
  refine wp_region_lit ?_
  refine seqS6 (a' := ⟨#[.int .u64 seed1, .int .i64 n2, undef, undef, .int .u64 0, .int .u64 (u64 ((Go.bits .xor .u64 (u64 (seed1 + (u64 ((u64 (w64 (n2 + 1))) * 11400714819323198485)))) (shr (u64 (seed1 + (u64 ((u64 (w64 (n2 + 1))) * 11400714819323198485)))) 30)) * 13787848793156543929)), .int .u64 seed1, .int .i64 n2, .int .i64 (w64 (n2 + 1)), .int .u64 (u64 (w64 (n2 + 1))), .int .u64 (u64 ((u64 (w64 (n2 + 1))) * 11400714819323198485)), .int .u64 (u64 (seed1 + (u64 ((u64 (w64 (n2 + 1))) * 11400714819323198485)))), .int .u64 (u64 (seed1 + (u64 ((u64 (w64 (n2 + 1))) * 11400714819323198485)))), .int .u64 (u64 (seed1 + (u64 ((u64 (w64 (n2 + 1))) * 11400714819323198485)))), .int .u64 (shr (u64 (seed1 + (u64 ((u64 (w64 (n2 + 1))) * 11400714819323198485)))) 30), .int .u64 (Go.bits .xor .u64 (u64 (seed1 + (u64 ((u64 (w64 (n2 + 1))) * 11400714819323198485)))) (shr (u64 (seed1 + (u64 ((u64 (w64 (n2 + 1))) * 11400714819323198485)))) 30)), .int .u64 (u64 ((Go.bits .xor .u64 (u64 (seed1 + (u64 ((u64 (w64 (n2 + 1))) * 11400714819323198485)))) (shr (u64 (seed1 + (u64 ((u64 (w64 (n2 + 1))) * 11400714819323198485)))) 30)) * 13787848793156543929)), undef, undef, undef, undef, undef, undef, undef, undef, undef], []⟩) (by kernel_rfl) ?_
  refine wpList_nil ?_
  refine hK8 _ _ ?_
  refine wp_seq_k (fun K9 hK10 => ?_)
  refine wp_region_lit ?_
  refine seqS6 (a' := ⟨#[.int .u64 seed1, .int .i64 n2, undef, undef, .int .u64 0, .int .u64 (u64 ((Go.bits .xor .u64 (u64 ((Go.bits .xor .u64 (u64 (seed1 + (u64 ((u64 (w64 (n2 + 1))) * 11400714819323198485)))) (shr (u64 (seed1 + (u64 ((u64 (w64 (n2 + 1))) * 11400714819323198485)))) 30)) * 13787848793156543929)) (shr (u64 ((Go.bits .xor .u64 (u64 (seed1 + (u64 ((u64 (w64 (n2 + 1))) * 11400714819323198485)))) (shr (u64 (seed1 + (u64 ((u64 (w64 (n2 + 1))) * 11400714819323198485)))) 30)) * 13787848793156543929)) 27)) * 10723151780598845931)), .int .u64 seed1, .int .i64 n2, .int .i64 (w64 (n2 + 1)), .int .u64 (u64 (w64 (n2 + 1))), .int .u64 (u64 ((u64 (w64 (n2 + 1))) * 11400714819323198485)), .int .u64 (u64 (seed1 + (u64 ((u64 (w64 (n2 + 1))) * 11400714819323198485)))), .int .u64 (u64 (seed1 + (u64 ((u64 (w64 (n2 + 1))) * 11400714819323198485)))), .int .u64 (u64 (seed1 + (u64 ((u64 (w64 (n2 + 1))) * 11400714819323198485)))), .int .u64 (shr (u64 (seed1 + (u64 ((u64 (w64 (n2 + 1))) * 11400714819323198485)))) 30), .int .u64 (Go.bits .xor .u64 (u64 (seed1 + (u64 ((u64 (w64 (n2 + 1))) * 11400714819323198485)))) (shr (u64 (seed1 + (u64 ((u64 (w64 (n2 + 1))) * 11400714819323198485)))) 30)), .int .u64 (u64 ((Go.bits .xor .u64 (u64 (seed1 + (u64 ((u64 (w64 (n2 + 1))) * 11400714819323198485)))) (shr (u64 (seed1 + (u64 ((u64 (w64 (n2 + 1))) * 11400714819323198485)))) 30)) * 13787848793156543929)), .int .u64 (u64 ((Go.bits .xor .u64 (u64 (seed1 + (u64 ((u64 (w64 (n2 + 1))) * 11400714819323198485)))) (shr (u64 (seed1 + (u64 ((u64 (w64 (n2 + 1))) * 11400714819323198485)))) 30)) * 13787848793156543929)), .int .u64 (u64 ((Go.bits .xor .u64 (u64 (seed1 + (u64 ((u64 (w64 (n2 + 1))) * 11400714819323198485)))) (shr (u64 (seed1 + (u64 ((u64 (w64 (n2 + 1))) * 11400714819323198485)))) 30)) * 13787848793156543929)), .int .u64 (shr (u64 ((Go.bits .xor .u64 (u64 (seed1 + (u64 ((u64 (w64 (n2 + 1))) * 11400714819323198485)))) (shr (u64 (seed1 + (u64 ((u64 (w64 (n2 + 1))) * 11400714819323198485)))) 30)) * 13787848793156543929)) 27), .int .u64 (Go.bits .xor .u64 (u64 ((Go.bits .xor .u64 (u64 (seed1 + (u64 ((u64 (w64 (n2 + 1))) * 11400714819323198485)))) (shr (u64 (seed1 + (u64 ((u64 (w64 (n2 + 1))) * 11400714819323198485)))) 30)) * 13787848793156543929)) (shr (u64 ((Go.bits .xor .u64 (u64 (seed1 + (u64 ((u64 (w64 (n2 + 1))) * 11400714819323198485)))) (shr (u64 (seed1 + (u64 ((u64 (w64 (n2 + 1))) * 11400714819323198485)))) 30)) * 13787848793156543929)) 27)), .int .u64 (u64 ((Go.bits .xor .u64 (u64 ((Go.bits .xor .u64 (u64 (seed1 + (u64 ((u64 (w64 (n2 + 1))) * 11400714819323198485)))) (shr (u64 (seed1 + (u64 ((u64 (w64 (n2 + 1))) * 11400714819323198485)))) 30)) * 13787848793156543929)) (shr (u64 ((Go.bits .xor .u64 (u64 (seed1 + (u64 ((u64 (w64 (n2 + 1))) * 11400714819323198485)))) (shr (u64 (seed1 + (u64 ((u64 (w64 (n2 + 1))) * 11400714819323198485)))) 30)) * 13787848793156543929)) 27)) * 10723151780598845931)), undef, undef, undef, undef], []⟩) (by kernel_rfl) ?_
  refine wpList_nil ?_
  refine hK10 _ _ ?_
  refine wp_seq_k (fun K11 hK12 => ?_)
  refine wp_region_lit ?_
  refine seqS5 (a' := ⟨#[.int .u64 seed1, .int .i64 n2, undef, undef, .int .u64 (Go.bits .xor .u64 (u64 ((Go.bits .xor .u64 (u64 ((Go.bits .xor .u64 (u64 (seed1 + (u64 ((u64 (w64 (n2 + 1))) * 11400714819323198485)))) (shr (u64 (seed1 + (u64 ((u64 (w64 (n2 + 1))) * 11400714819323198485)))) 30)) * 13787848793156543929)) (shr (u64 ((Go.bits .xor .u64 (u64 (seed1 + (u64 ((u64 (w64 (n2 + 1))) * 11400714819323198485)))) (shr (u64 (seed1 + (u64 ((u64 (w64 (n2 + 1))) * 11400714819323198485)))) 30)) * 13787848793156543929)) 27)) * 10723151780598845931)) (shr (u64 ((Go.bits .xor .u64 (u64 ((Go.bits .xor .u64 (u64 (seed1 + (u64 ((u64 (w64 (n2 + 1))) * 11400714819323198485)))) (shr (u64 (seed1 + (u64 ((u64 (w64 (n2 + 1))) * 11400714819323198485)))) 30)) * 13787848793156543929)) (shr (u64 ((Go.bits .xor .u64 (u64 (seed1 + (u64 ((u64 (w64 (n2 + 1))) * 11400714819323198485)))) (shr (u64 (seed1 + (u64 ((u64 (w64 (n2 + 1))) * 11400714819323198485)))) 30)) * 13787848793156543929)) 27)) * 10723151780598845931)) 31)), .int .u64 (u64 ((Go.bits .xor .u64 (u64 ((Go.bits .xor .u64 (u64 (seed1 + (u64 ((u64 (w64 (n2 + 1))) * 11400714819323198485)))) (shr (u64 (seed1 + (u64 ((u64 (w64 (n2 + 1))) * 11400714819323198485)))) 30)) * 13787848793156543929)) (shr (u64 ((Go.bits .xor .u64 (u64 (seed1 + (u64 ((u64 (w64 (n2 + 1))) * 11400714819323198485)))) (shr (u64 (seed1 + (u64 ((u64 (w64 (n2 + 1))) * 11400714819323198485)))) 30)) * 13787848793156543929)) 27)) * 10723151780598845931)), .int .u64 seed1, .int .i64 n2, .int .i64 (w64 (n2 + 1)), .int .u64 (u64 (w64 (n2 + 1))), .int .u64 (u64 ((u64 (w64 (n2 + 1))) * 11400714819323198485)), .int .u64 (u64 (seed1 + (u64 ((u64 (w64 (n2 + 1))) * 11400714819323198485)))), .int .u64 (u64 (seed1 + (u64 ((u64 (w64 (n2 + 1))) * 11400714819323198485)))), .int .u64 (u64 (seed1 + (u64 ((u64 (w64 (n2 + 1))) * 11400714819323198485)))), .int .u64 (shr (u64 (seed1 + (u64 ((u64 (w64 (n2 + 1))) * 11400714819323198485)))) 30), .int .u64 (Go.bits .xor .u64 (u64 (seed1 + (u64 ((u64 (w64 (n2 + 1))) * 11400714819323198485)))) (shr (u64 (seed1 + (u64 ((u64 (w64 (n2 + 1))) * 11400714819323198485)))) 30)), .int .u64 (u64 ((Go.bits .xor .u64 (u64 (seed1 + (u64 ((u64 (w64 (n2 + 1))) * 11400714819323198485)))) (shr (u64 (seed1 + (u64 ((u64 (w64 (n2 + 1))) * 11400714819323198485)))) 30)) * 13787848793156543929)), .int .u64 (u64 ((Go.bits .xor .u64 (u64 (seed1 + (u64 ((u64 (w64 (n2 + 1))) * 11400714819323198485)))) (shr (u64 (seed1 + (u64 ((u64 (w64 (n2 + 1))) * 11400714819323198485)))) 30)) * 13787848793156543929)), .int .u64 (u64 ((Go.bits .xor .u64 (u64 (seed1 + (u64 ((u64 (w64 (n2 + 1))) * 11400714819323198485)))) (shr (u64 (seed1 + (u64 ((u64 (w64 (n2 + 1))) * 11400714819323198485)))) 30)) * 13787848793156543929)), .int .u64 (shr (u64 ((Go.bits .xor .u64 (u64 (seed1 + (u64 ((u64 (w64 (n2 + 1))) * 11400714819323198485)))) (shr (u64 (seed1 + (u64 ((u64 (w64 (n2 + 1))) * 11400714819323198485)))) 30)) * 13787848793156543929)) 27), .int .u64 (Go.bits .xor .u64 (u64 ((Go.bits .xor .u64 (u64 (seed1 + (u64 ((u64 (w64 (n2 + 1))) * 11400714819323198485)))) (shr (u64 (seed1 + (u64 ((u64 (w64 (n2 + 1))) * 11400714819323198485)))) 30)) * 13787848793156543929)) (shr (u64 ((Go.bits .xor .u64 (u64 (seed1 + (u64 ((u64 (w64 (n2 + 1))) * 11400714819323198485)))) (shr (u64 (seed1 + (u64 ((u64 (w64 (n2 + 1))) * 11400714819323198485)))) 30)) * 13787848793156543929)) 27)), .int .u64 (u64 ((Go.bits .xor .u64 (u64 ((Go.bits .xor .u64 (u64 (seed1 + (u64 ((u64 (w64 (n2 + 1))) * 11400714819323198485)))) (shr (u64 (seed1 + (u64 ((u64 (w64 (n2 + 1))) * 11400714819323198485)))) 30)) * 13787848793156543929)) (shr (u64 ((Go.bits .xor .u64 (u64 (seed1 + (u64 ((u64 (w64 (n2 + 1))) * 11400714819323198485)))) (shr (u64 (seed1 + (u64 ((u64 (w64 (n2 + 1))) * 11400714819323198485)))) 30)) * 13787848793156543929)) 27)) * 10723151780598845931)), .int .u64 (u64 ((Go.bits .xor .u64 (u64 ((Go.bits .xor .u64 (u64 (seed1 + (u64 ((u64 (w64 (n2 + 1))) * 11400714819323198485)))) (shr (u64 (seed1 + (u64 ((u64 (w64 (n2 + 1))) * 11400714819323198485)))) 30)) * 13787848793156543929)) (shr (u64 ((Go.bits .xor .u64 (u64 (seed1 + (u64 ((u64 (w64 (n2 + 1))) * 11400714819323198485)))) (shr (u64 (seed1 + (u64 ((u64 (w64 (n2 + 1))) * 11400714819323198485)))) 30)) * 13787848793156543929)) 27)) * 10723151780598845931)), .int .u64 (u64 ((Go.bits .xor .u64 (u64 ((Go.bits .xor .u64 (u64 (seed1 + (u64 ((u64 (w64 (n2 + 1))) * 11400714819323198485)))) (shr (u64 (seed1 + (u64 ((u64 (w64 (n2 + 1))) * 11400714819323198485)))) 30)) * 13787848793156543929)) (shr (u64 ((Go.bits .xor .u64 (u64 (seed1 + (u64 ((u64 (w64 (n2 + 1))) * 11400714819323198485)))) (shr (u64 (seed1 + (u64 ((u64 (w64 (n2 + 1))) * 11400714819323198485)))) 30)) * 13787848793156543929)) 27)) * 10723151780598845931)), .int .u64 (shr (u64 ((Go.bits .xor .u64 (u64 ((Go.bits .xor .u64 (u64 (seed1 + (u64 ((u64 (w64 (n2 + 1))) * 11400714819323198485)))) (shr (u64 (seed1 + (u64 ((u64 (w64 (n2 + 1))) * 11400714819323198485)))) 30)) * 13787848793156543929)) (shr (u64 ((Go.bits .xor .u64 (u64 (seed1 + (u64 ((u64 (w64 (n2 + 1))) * 11400714819323198485)))) (shr (u64 (seed1 + (u64 ((u64 (w64 (n2 + 1))) * 11400714819323198485)))) 30)) * 13787848793156543929)) 27)) * 10723151780598845931)) 31), .int .u64 (Go.bits .xor .u64 (u64 ((Go.bits .xor .u64 (u64 ((Go.bits .xor .u64 (u64 (seed1 + (u64 ((u64 (w64 (n2 + 1))) * 11400714819323198485)))) (shr (u64 (seed1 + (u64 ((u64 (w64 (n2 + 1))) * 11400714819323198485)))) 30)) * 13787848793156543929)) (shr (u64 ((Go.bits .xor .u64 (u64 (seed1 + (u64 ((u64 (w64 (n2 + 1))) * 11400714819323198485)))) (shr (u64 (seed1 + (u64 ((u64 (w64 (n2 + 1))) * 11400714819323198485)))) 30)) * 13787848793156543929)) 27)) * 10723151780598845931)) (shr (u64 ((Go.bits .xor .u64 (u64 ((Go.bits .xor .u64 (u64 (seed1 + (u64 ((u64 (w64 (n2 + 1))) * 11400714819323198485)))) (shr (u64 (seed1 + (u64 ((u64 (w64 (n2 + 1))) * 11400714819323198485)))) 30)) * 13787848793156543929)) (shr (u64 ((Go.bits .xor .u64 (u64 (seed1 + (u64 ((u64 (w64 (n2 + 1))) * 11400714819323198485)))) (shr (u64 (seed1 + (u64 ((u64 (w64 (n2 + 1))) * 11400714819323198485)))) 30)) * 13787848793156543929)) 27)) * 10723151780598845931)) 31))], []⟩) (by kernel_rfl) ?_
  refine wpList_nil ?_
  refine hK12 _ _ ?_
  refine wp_ret ?_
  refine hret _ _ ?_
  refine ends_still (v := Value.int .u64 (Go.bits .xor .u64 (u64 ((Go.bits .xor .u64 (u64 ((Go.bits .xor .u64 (u64 (seed1 + (u64 ((u64 (w64 (n2 + 1))) * 11400714819323198485)))) (shr (u64 (seed1 + (u64 ((u64 (w64 (n2 + 1))) * 11400714819323198485)))) 30)) * 13787848793156543929)) (shr (u64 ((Go.bits .xor .u64 (u64 (seed1 + (u64 ((u64 (w64 (n2 + 1))) * 11400714819323198485)))) (shr (u64 (seed1 + (u64 ((u64 (w64 (n2 + 1))) * 11400714819323198485)))) 30)) * 13787848793156543929)) 27)) * 10723151780598845931)) (shr (u64 ((Go.bits .xor .u64 (u64 ((Go.bits .xor .u64 (u64 (seed1 + (u64 ((u64 (w64 (n2 + 1))) * 11400714819323198485)))) (shr (u64 (seed1 + (u64 ((u64 (w64 (n2 + 1))) * 11400714819323198485)))) 30)) * 13787848793156543929)) (shr (u64 ((Go.bits .xor .u64 (u64 (seed1 + (u64 ((u64 (w64 (n2 + 1))) * 11400714819323198485)))) (shr (u64 (seed1 + (u64 ((u64 (w64 (n2 + 1))) * 11400714819323198485)))) 30)) * 13787848793156543929)) 27)) * 10723151780598845931)) 31))) (by kernel_rfl) (by kernel_rfl) ?_
  injection h with h
  subst h
  exact ⟨f, rfl, FM.le.refl _, HS⟩

set_option maxRecDepth 100000 in
set_option maxHeartbeats 4000000 in
theorem bits_Mul64.calls (k : Nat)  (x1 : Int) (y2 : Int) {t w : World} {f : FM} {H : List Seg} (HS : St t w f (H)) (r1 : Int) (r2 : Int) (h : bits_Mul64 k x1 y2 = some (r1, r2)) :
    Calls Try.prog 58 #[.int .u64 x1, .int .u64 y2] w (fun e w' => ∃ (g : FM), e = .returned (Value.tuple #[.int .u64 r1, .int .u64 r2]) ∧ FM.le f g ∧ St t w' g (H)) := by
  unfold bits_Mul64 at h
  refine enter Try.func58 rfl (tm := #[.int .u64 x1, .int .u64 y2, undef, undef, undef, undef, undef, undef, undef, undef, undef, undef, undef, undef, undef, undef, undef, undef, undef, undef, undef, undef, undef, undef, undef, undef, undef, undef, undef, undef, undef, undef, undef, undef, undef, undef, undef, undef, undef, undef, undef, undef, undef, undef, undef, undef, undef, undef, undef, undef, undef]) (by kernel_rfl) ?_
  intro B hret hnor hnp
  refine wp_seq_k (fun K3 hK4 => ?_)
  refine wp_region_lit ?_
  refine seqS2 (a' := ⟨#[.int .u64 x1, .int .u64 y2, undef, undef, .int .u64 0, .int .u64 0, undef, undef, undef, undef, undef, undef, undef, undef, undef, undef, undef, undef, undef, undef, undef, undef, undef, undef, undef, undef, undef, undef, undef, undef, undef, undef, undef, undef, undef, undef, undef, undef, undef, undef, undef, undef, undef, undef, undef, undef, undef, undef, undef, undef, undef], []⟩) (by kernel_rfl) ?_
  refine wpList_nil ?_
  refine hK4 _ _ ?_
  refine wp_seq_k (fun K5 hK6 => ?_)
  refine wp_region_lit ?_
  refine seqS3 (a' := ⟨#[.int .u64 x1, .int .u64 y2, undef, undef, .int .u64 0, .int .u64 0, .int .u64 (Go.bits .and .u64 x1 4294967295), undef, undef, undef, undef, undef, undef, undef, .int .u64 x1, .int .u64 (Go.bits .and .u64 x1 4294967295), undef, undef, undef, undef, undef, undef, undef, undef, undef, undef, undef, undef, undef, undef, undef, undef, undef, undef, undef, undef, undef, undef, undef, undef, undef, undef, undef, undef, undef, undef, undef, undef, undef, undef, undef], []⟩) (by kernel_rfl) ?_
  refine wpList_nil ?_
  refine hK6 _ _ ?_
  refine wp_seq_k (fun K7 hK8 => ?_)
  refine wp_region_lit ?_
  refine seqS3 (a' := ⟨#[.int .u64 x1, .int .u64 y2, undef, undef, .int .u64 0, .int .u64 0, .int .u64 (Go.bits .and .u64 x1 4294967295), .int .u64 (shr x1 32), undef, undef, undef, undef, undef, undef, .int .u64 x1, .int .u64 (Go.bits .and .u64 x1 4294967295), .int .u64 x1, .int .u64 (shr x1 32), undef, undef, undef, undef, undef, undef, undef, undef, undef, undef, undef, undef, undef, undef, undef, undef, undef, undef, undef, undef, undef, undef, undef, undef, undef, undef, undef, undef, undef, undef, undef, undef, undef], []⟩) (by kernel_rfl) ?_
  refine wpList_nil ?_
  refine hK8 _ _ ?_
  refine wp_seq_k (fun K9 hK10 => ?_)
  refine wp_region_lit ?_
  refine seqS3 (a' := ⟨#[.int .u64 x1, .int .u64 y2, undef, undef, .int .u64 0, .int .u64 0, .int .u64 (Go.bits .and .u64 x1 4294967295), .int .u64 (shr x1 32), .int .u64 (Go.bits .and .u64 y2 4294967295), undef, undef, undef, undef, undef, .int .u64 x1, .int .u64 (Go.bits .and .u64 x1 4294967295), .int .u64 x1, .int .u64 (shr x1 32), .int .u64 y2, .int .u64 (Go.bits .and .u64 y2 4294967295), undef, undef, undef, undef, undef, undef, undef, undef, undef, undef, undef, undef, undef, undef, undef, undef, undef, undef, undef, undef, undef, undef, undef, undef, undef, undef, undef, undef, undef, undef, undef], []⟩) (by kernel_rfl) ?_
  refine wpList_nil ?_
  refine hK10 _ _ ?_
  refine wp_seq_k (fun K11 hK12 => ?_)
  refine wp_region_lit ?_
  refine seqS3 (a' := ⟨#[.int .u64 x1, .int .u64 y2, undef, undef, .int .u64 0, .int .u64 0, .int .u64 (Go.bits .and .u64 x1 4294967295), .int .u64 (shr x1 32), .int .u64 (Go.bits .and .u64 y2 4294967295), .int .u64 (shr y2 32), undef, undef, undef, undef, .int .u64 x1, .int .u64 (Go.bits .and .u64 x1 4294967295), .int .u64 x1, .int .u64 (shr x1 32), .int .u64 y2, .int .u64 (Go.bits .and .u64 y2 4294967295), .int .u64 y2, .int .u64 (shr y2 32), undef, undef, undef, undef, undef, undef, undef, undef, undef, undef, undef, undef, undef, undef, undef, undef, undef, undef, undef, undef, undef, undef, undef, undef, undef, undef, undef, undef, undef], []⟩) (by kernel_rfl) ?_
  refine wpList_nil ?_
  refine hK12 _ _ ?_
  refine wp_seq_k (fun K13 hK14 => ?_)
  refine wp_region_lit ?_
  refine seqS4 (a' := ⟨#[.int .u64 x1, .int .u64 y2, undef, undef, .int .u64 0, .int .u64 0, .int .u64 (Go.bits .and .u64 x1 4294967295), .int .u64 (shr x1 32), .int .u64 (Go.bits .and .u64 y2 4294967295), .int .u64 (shr y2 32), .int .u64 (u64 ((Go.bits .and .u64 x1 4294967295) * (Go.bits .and .u64 y2 4294967295))), undef, undef, undef, .int .u64 x1, .int .u64 (Go.bits .and .u64 x1 4294967295), .int .u64 x1, .int .u64 (shr x1 32), .int .u64 y2, .int .u64 (Go.bits .and .u64 y2 4294967295), .int .u64 y2, .int .u64 (shr y2 32), .int .u64 (Go.bits .and .u64 x1 4294967295), .int .u64 (Go.bits .and .u64 y2 4294967295), .int .u64 (u64 ((Go.bits .and .u64 x1 4294967295) * (Go.bits .and .u64 y2 4294967295))), undef, undef, undef, undef, undef, undef, undef, undef, undef, undef, undef, undef, undef, undef, undef, undef, undef, undef, undef, undef, undef, undef, undef, undef, undef, undef], []⟩) (by kernel_rfl) ?_
  refine wpList_nil ?_
  refine hK14 _ _ ?_
  refine wp_seq_k (fun K15 hK16 => ?_)
  refine wp_region_lit ?_
  refine seqS7 (a' := ⟨#[.int .u64 x1, .int .u64 y2, undef, undef, .int .u64 0, .int .u64 0, .int .u64 (Go.bits .and .u64 x1 4294967295), .int .u64 (shr x1 32), .int .u64 (Go.bits .and .u64 y2 4294967295), .int .u64 (shr y2 32), .int .u64 (u64 ((Go.bits .and .u64 x1 4294967295) * (Go.bits .and .u64 y2 4294967295))), .int .u64 (u64 ((u64 ((shr x1 32) * (Go.bits .and .u64 y2 4294967295))) + (shr (u64 ((Go.bits .and .u64 x1 4294967295) * (Go.bits .and .u64 y2 4294967295))) 32))), undef, undef, .int .u64 x1, .int .u64 (Go.bits .and .u64 x1 4294967295), .int .u64 x1, .int .u64 (shr x1 32), .int .u64 y2, .int .u64 (Go.bits .and .u64 y2 4294967295), .int .u64 y2, .int .u64 (shr y2 32), .int .u64 (Go.bits .and .u64 x1 4294967295), .int .u64 (Go.bits .and .u64 y2 4294967295), .int .u64 (u64 ((Go.bits .and .u64 x1 4294967295) * (Go.bits .and .u64 y2 4294967295))), .int .u64 (shr x1 32), .int .u64 (Go.bits .and .u64 y2 4294967295), .int .u64 (u64 ((shr x1 32) * (Go.bits .and .u64 y2 4294967295))), .int .u64 (u64 ((Go.bits .and .u64 x1 4294967295) * (Go.bits .and .u64 y2 4294967295))), .int .u64 (shr (u64 ((Go.bits .and .u64 x1 4294967295) * (Go.bits .and .u64 y2 4294967295))) 32), .int .u64 (u64 ((u64 ((shr x1 32) * (Go.bits .and .u64 y2 4294967295))) + (shr (u64 ((Go.bits .and .u64 x1 4294967295) * (Go.bits .and .u64 y2 4294967295))) 32))), undef, undef, undef, undef, undef, undef, undef, undef, undef, undef, undef, undef, undef, undef, undef, undef, undef, undef, undef, undef], []⟩) (by kernel_rfl) ?_
  refine wpList_nil ?_
  refine hK16 _ _ ?_
  refine wp_seq_k (fun K17 hK18 => ?_)
  refine wp_region_lit ?_
  refine seqS3 (a' := ⟨#[.int .u64 x1, .int .u64 y2, undef, undef, .int .u64 0, .int .u64 0, .int .u64 (Go.bits .and .u64 x1 4294967295), .int .u64 (shr x1 32), .int .u64 (Go.bits .and .u64 y2 4294967295), .int .u64 (shr y2 32), .int .u64 (u64 ((Go.bits .and .u64 x1 4294967295) * (Go.bits .and .u64 y2 4294967295))), .int .u64 (u64 ((u64 ((shr x1 32) * (Go.bits .and .u64 y2 4294967295))) + (shr (u64 ((Go.bits .and .u64 x1 4294967295) * (Go.bits .and .u64 y2 4294967295))) 32))), .int .u64 (Go.bits .and .u64 (u64 ((u64 ((shr x1 32) * (Go.bits .and .u64 y2 4294967295))) + (shr (u64 ((Go.bits .and .u64 x1 4294967295) * (Go.bits .and .u64 y2 4294967295))) 32))) 4294967295), undef, .int .u64 x1, .int .u64 (Go.bits .and .u64 x1 4294967295), .int .u64 x1, .int .u64 (shr x1 32), .int .u64 y2, .int .u64 (Go.bits .and .u64 y2 4294967295), .int .u64 y2, .int .u64 (shr y2 32), .int .u64 (Go.bits .and .u64 x1 4294967295), .int .u64 (Go.bits .and .u64 y2 4294967295), .int .u64 (u64 ((Go.bits .and .u64 x1 4294967295) * (Go.bits .and .u64 y2 4294967295))), .int .u64 (shr x1 32), .int .u64 (Go.bits .and .u64 y2 4294967295), .int .u64 (u64 ((shr x1 32) * (Go.bits .and .u64 y2 4294967295))), .int .u64 (u64 ((Go.bits .and .u64 x1 4294967295) * (Go.bits .and .u64 y2 4294967295))), .int .u64 (shr (u64 ((Go.bits .and .u64 x1 4294967295) * (Go.bits .and .u64 y2 4294967295))) 32), .int .u64 (u64 ((u64 ((shr x1 32) * (Go.bits .and .u64 y2 4294967295))) + (shr (u64 ((Go.bits .and .u64 x1 4294967295) * (Go.bits .and .u64 y2 4294967295))) 32))), .int .u64 (u64 ((u64 ((shr x1 32) * (Go.bits .and .u64 y2 4294967295))) + (shr (u64 ((Go.bits .and .u64 x1 4294967295) * (Go.bits .and .u64 y2 4294967295))) 32))), .int .u64 (Go.bits .and .u64 (u64 ((u64 ((shr x1 32) * (Go.bits .and .u64 y2 4294967295))) + (shr (u64 ((Go.bits .and .u64 x1 4294967295) * (Go.bits .and .u64 y2 4294967295))) 32))) 4294967295), undef, undef, undef, undef, undef, undef, undef, undef, undef, undef, undef, undef, undef, undef, undef, undef, undef, undef], []⟩) (by kernel_rfl) ?_
  refine wpList_nil ?_
  refine hK18 _ _ ?_
  refine wp_seq_k (fun K19 hK20 => ?_)
  refine wp_region_lit ?_
  refine seqS3 (a' := ⟨#[.int .u64 x1, .int .u64 y2, undef, undef, .int .u64 0, .int .u64 0, .int .u64 (Go.bits .and .u64 x1 4294967295), .int .u64 (shr x1 32), .int .u64 (Go.bits .and .u64 y2 4294967295), .int .u64 (shr y2 32), .int .u64 (u64 ((Go.bits .and .u64 x1 4294967295) * (Go.bits .and .u64 y2 4294967295))), .int .u64 (u64 ((u64 ((shr x1 32) * (Go.bits .and .u64 y2 4294967295))) + (shr (u64 ((Go.bits .and .u64 x1 4294967295) * (Go.bits .and .u64 y2 4294967295))) 32))), .int .u64 (Go.bits .and .u64 (u64 ((u64 ((shr x1 32) * (Go.bits .and .u64 y2 4294967295))) + (shr (u64 ((Go.bits .and .u64 x1 4294967295) * (Go.bits .and .u64 y2 4294967295))) 32))) 4294967295), .int .u64 (shr (u64 ((u64 ((shr x1 32) * (Go.bits .and .u64 y2 4294967295))) + (shr (u64 ((Go.bits .and .u64 x1 4294967295) * (Go.bits .and .u64 y2 4294967295))) 32))) 32), .int .u64 x1, .int .u64 (Go.bits .and .u64 x1 4294967295), .int .u64 x1, .int .u64 (shr x1 32), .int .u64 y2, .int .u64 (Go.bits .and .u64 y2 4294967295), .int .u64 y2, .int .u64 (shr y2 32), .int .u64 (Go.bits .and .u64 x1 4294967295), .int .u64 (Go.bits .and .u64 y2 4294967295), .int .u64 (u64 ((Go.bits .and .u64 x1 4294967295) * (Go.bits .and .u64 y2 4294967295))), .int .u64 (shr x1 32), .int .u64 (Go.bits .and .u64 y2 4294967295), .int .u64 (u64 ((shr x1 32) * (Go.bits .and .u64 y2 4294967295))), .int .u64 (u64 ((Go.bits .and .u64 x1 4294967295) * (Go.bits .and .u64 y2 4294967295))), .int .u64 (shr (u64 ((Go.bits .and .u64 x1 4294967295) * (Go.bits .and .u64 y2 4294967295))) 32), .int .u64 (u64 ((u64 ((shr x1 32) * (Go.bits .and .u64 y2 4294967295))) + (shr (u64 ((Go.bits .and .u64 x1 4294967295) * (Go.bits .and .u64 y2 4294967295))) 32))), .int .u64 (u64 ((u64 ((shr x1 32) * (Go.bits .and .u64 y2 4294967295))) + (shr (u64 ((Go.bits .and .u64 x1 4294967295) * (Go.bits .and .u64 y2 4294967295))) 32))), .int .u64 (Go.bits .and .u64 (u64 ((u64 ((shr x1 32) * (Go.bits .and .u64 y2 4294967295))) + (shr (u64 ((Go.bits .and .u64 x1 4294967295) * (Go.bits .and .u64 y2 4294967295))) 32))) 4294967295), .int .u64 (u64 ((u64 ((shr x1 32) * (Go.bits .and .u64 y2 4294967295))) + (shr (u64 ((Go.bits .and .u64 x1 4294967295) * (Go.bits .and .u64 y2 4294967295))) 32))), .int .u64 (shr (u64 ((u64 ((shr x1 32) * (Go.bits .and .u64 y2 4294967295))) + (shr (u64 ((Go.bits .and .u64 x1 4294967295) * (Go.bits .and .u64 y2 4294967295))) 32))) 32), undef, undef, undef, undef, undef, undef, undef, undef, undef, undef, undef, undef, undef, undef, undef, undef], []⟩) (by kernel_rfl) ?_
  refine wpList_nil ?_
  refine hK20 _ _ ?_
  refine wp_seq_k (fun K21 hK22 => ?_)
  refine wp_region_lit ?_
  refine seqS6 (a' := ⟨#[.int .u64 x1, .int .u64 y2, undef, undef, .int .u64 0, .int .u64 0, .int .u64 (Go.bits .and .u64 x1 4294967295), .int .u64 (shr x1 32), .int .u64 (Go.bits .and .u64 y2 4294967295), .int .u64 (shr y2 32), .int .u64 (u64 ((Go.bits .and .u64 x1 4294967295) * (Go.bits .and .u64 y2 4294967295))), .int .u64 (u64 ((u64 ((shr x1 32) * (Go.bits .and .u64 y2 4294967295))) + (shr (u64 ((Go.bits .and .u64 x1 4294967295) * (Go.bits .and .u64 y2 4294967295))) 32))), .int .u64 (u64 ((Go.bits .and .u64 (u64 ((u64 ((shr x1 32) * (Go.bits .and .u64 y2 4294967295))) + (shr (u64 ((Go.bits .and .u64 x1 4294967295) * (Go.bits .and .u64 y2 4294967295))) 32))) 4294967295) + (u64 ((Go.bits .and .u64 x1 4294967295) * (shr y2 32))))), .int .u64 (shr (u64 ((u64 ((shr x1 32) * (Go.bits .and .u64 y2 4294967295))) + (shr (u64 ((Go.bits .and .u64 x1 4294967295) * (Go.bits .and .u64 y2 4294967295))) 32))) 32), .int .u64 x1, .int .u64 (Go.bits .and .u64 x1 4294967295), .int .u64 x1, .int .u64 (shr x1 32), .int .u64 y2, .int .u64 (Go.bits .and .u64 y2 4294967295), .int .u64 y2, .int .u64 (shr y2 32), .int .u64 (Go.bits .and .u64 x1 4294967295), .int .u64 (Go.bits .and .u64 y2 4294967295), .int .u64 (u64 ((Go.bits .and .u64 x1 4294967295) * (Go.bits .and .u64 y2 4294967295))), .int .u64 (shr x1 32), .int .u64 (Go.bits .and .u64 y2 4294967295), .int .u64 (u64 ((shr x1 32) * (Go.bits .and .u64 y2 4294967295))), .int .u64 (u64 ((Go.bits .and .u64 x1 4294967295) * (Go.bits .and .u64 y2 4294967295))), .int .u64 (shr (u64 ((Go.bits .and .u64 x1 4294967295) * (Go.bits .and .u64 y2 4294967295))) 32), .int .u64 (u64 ((u64 ((shr x1 32) * (Go.bits .and .u64 y2 4294967295))) + (shr (u64 ((Go.bits .and .u64 x1 4294967295) * (Go.bits .and .u64 y2 4294967295))) 32))), .int .u64 (u64 ((u64 ((shr x1 32) * (Go.bits .and .u64 y2 4294967295))) + (shr (u64 ((Go.bits .and .u64 x1 4294967295) * (Go.bits .and .u64 y2 4294967295))) 32))), .int .u64 (Go.bits .and .u64 (u64 ((u64 ((shr x1 32) * (Go.bits .and .u64 y2 4294967295))) + (shr (u64 ((Go.bits .and .u64 x1 4294967295) * (Go.bits .and .u64 y2 4294967295))) 32))) 4294967295), .int .u64 (u64 ((u64 ((shr x1 32) * (Go.bits .and .u64 y2 4294967295))) + (shr (u64 ((Go.bits .and .u64 x1 4294967295) * (Go.bits .and .u64 y2 4294967295))) 32))), .int .u64 (shr (u64 ((u64 ((shr x1 32) * (Go.bits .and .u64 y2 4294967295))) + (shr (u64 ((Go.bits .and .u64 x1 4294967295) * (Go.bits .and .u64 y2 4294967295))) 32))) 32), .int .u64 (Go.bits .and .u64 (u64 ((u64 ((shr x1 32) * (Go.bits .and .u64 y2 4294967295))) + (shr (u64 ((Go.bits .and .u64 x1 4294967295) * (Go.bits .and .u64 y2 4294967295))) 32))) 4294967295), .int .u64 (Go.bits .and .u64 x1 4294967295), .int .u64 (shr y2 32), .int .u64 (u64 ((Go.bits .and .u64 x1 4294967295) * (shr y2 32))), .int .u64 (u64 ((Go.bits .and .u64 (u64 ((u64 ((shr x1 32) * (Go.bits .and .u64 y2 4294967295))) + (shr (u64 ((Go.bits .and .u64 x1 4294967295) * (Go.bits .and .u64 y2 4294967295))) 32))) 4294967295) + (u64 ((Go.bits .and .u64 x1 4294967295) * (shr y2 32))))), undef, undef, undef, undef, undef, undef, undef, undef, undef, undef, undef], []⟩) (by kernel_rfl) ?_
  refine wpList_nil ?_
  refine hK22 _ _ ?_
  refine wp_seq_k (fun K23 hK24 => ?_)
  refine wp_region_lit ?_
  refine seqS9 (a' := ⟨#[.int .u64 x1, .int .u64 y2, undef, undef, .int .u64 (u64 ((u64 ((u64 ((shr x1 32) * (shr y2 32))) + (shr (u64 ((u64 ((shr x1 32) * (Go.bits .and .u64 y2 4294967295))) + (shr (u64 ((Go.bits .and .u64 x1 4294967295) * (Go.bits .and .u64 y2 4294967295))) 32))) 32))) + (shr (u64 ((Go.bits .and .u64 (u64 ((u64 ((shr x1 32) * (Go.bits .and .u64 y2 4294967295))) + (shr (u64 ((Go.bits .and .u64 x1 4294967295) * (Go.bits .and .u64 y2 4294967295))) 32))) 4294967295) + (u64 ((Go.bits .and .u64 x1 4294967295) * (shr y2 32))))) 32))), .int .u64 0, .int .u64 (Go.bits .and .u64 x1 4294967295), .int .u64 (shr x1 32), .int .u64 (Go.bits .and .u64 y2 4294967295), .int .u64 (shr y2 32), .int .u64 (u64 ((Go.bits .and .u64 x1 4294967295) * (Go.bits .and .u64 y2 4294967295))), .int .u64 (u64 ((u64 ((shr x1 32) * (Go.bits .and .u64 y2 4294967295))) + (shr (u64 ((Go.bits .and .u64 x1 4294967295) * (Go.bits .and .u64 y2 4294967295))) 32))), .int .u64 (u64 ((Go.bits .and .u64 (u64 ((u64 ((shr x1 32) * (Go.bits .and .u64 y2 4294967295))) + (shr (u64 ((Go.bits .and .u64 x1 4294967295) * (Go.bits .and .u64 y2 4294967295))) 32))) 4294967295) + (u64 ((Go.bits .and .u64 x1 4294967295) * (shr y2 32))))), .int .u64 (shr (u64 ((u64 ((shr x1 32) * (Go.bits .and .u64 y2 4294967295))) + (shr (u64 ((Go.bits .and .u64 x1 4294967295) * (Go.bits .and .u64 y2 4294967295))) 32))) 32), .int .u64 x1, .int .u64 (Go.bits .and .u64 x1 4294967295), .int .u64 x1, .int .u64 (shr x1 32), .int .u64 y2, .int .u64 (Go.bits .and .u64 y2 4294967295), .int .u64 y2, .int .u64 (shr y2 32), .int .u64 (Go.bits .and .u64 x1 4294967295), .int .u64 (Go.bits .and .u64 y2 4294967295), .int .u64 (u64 ((Go.bits .and .u64 x1 4294967295) * (Go.bits .and .u64 y2 4294967295))), .int .u64 (shr x1 32), .int .u64 (Go.bits .and .u64 y2 4294967295), .int .u64 (u64 ((shr x1 32) * (Go.bits .and .u64 y2 4294967295))), .int .u64 (u64 ((Go.bits .and .u64 x1 4294967295) * (Go.bits .and .u64 y2 4294967295))), .int .u64 (shr (u64 ((Go.bits .and .u64 x1 4294967295) * (Go.bits .and .u64 y2 4294967295))) 32), .int .u64 (u64 ((u64 ((shr x1 32) * (Go.bits .and .u64 y2 4294967295))) + (shr (u64 ((Go.bits .and .u64 x1 4294967295) * (Go.bits .and .u64 y2 4294967295))) 32))), .int .u64 (u64 ((u64 ((shr x1 32) * (Go.bits .and .u64 y2 4294967295))) + (shr (u64 ((Go.bits .and .u64 x1 4294967295) * (Go.bits .and .u64 y2 4294967295))) 32))), .int .u64 (Go.bits .and .u64 (u64 ((u64 ((shr x1 32) * (Go.bits .and .u64 y2 4294967295))) + (shr (u64 ((Go.bits .and .u64 x1 4294967295) * (Go.bits .and .u64 y2 4294967295))) 32))) 4294967295), .int .u64 (u64 ((u64 ((shr x1 32) * (Go.bits .and .u64 y2 4294967295))) + (shr (u64 ((Go.bits .and .u64 x1 4294967295) * (Go.bits .and .u64 y2 4294967295))) 32))), .int .u64 (shr (u64 ((u64 ((shr x1 32) * (Go.bits .and .u64 y2 4294967295))) + (shr (u64 ((Go.bits .and .u64 x1 4294967295) * (Go.bits .and .u64 y2 4294967295))) 32))) 32), .int .u64 (Go.bits .and .u64 (u64 ((u64 ((shr x1 32) * (Go.bits .and .u64 y2 4294967295))) + (shr (u64 ((Go.bits .and .u64 x1 4294967295) * (Go.bits .and .u64 y2 4294967295))) 32))) 4294967295), .int .u64 (Go.bits .and .u64 x1 4294967295), .int .u64 (shr y2 32), .int .u64 (u64 ((Go.bits .and .u64 x1 4294967295) * (shr y2 32))), .int .u64 (u64 ((Go.bits .and .u64 (u64 ((u64 ((shr x1 32) * (Go.bits .and .u64 y2 4294967295))) + (shr (u64 ((Go.bits .and .u64 x1 4294967295) * (Go.bits .and .u64 y2 4294967295))) 32))) 4294967295) + (u64 ((Go.bits .and .u64 x1 4294967295) * (shr y2 32))))), .int .u64 (shr x1 32), .int .u64 (shr y2 32), .int .u64 (u64 ((shr x1 32) * (shr y2 32))), .int .u64 (shr (u64 ((u64 ((shr x1 32) * (Go.bits .and .u64 y2 4294967295))) + (shr (u64 ((Go.bits .and .u64 x1 4294967295) * (Go.bits .and .u64 y2 4294967295))) 32))) 32), .int .u64 (u64 ((u64 ((shr x1 32) * (shr y2 32))) + (shr (u64 ((u64 ((shr x1 32) * (Go.bits .and .u64 y2 4294967295))) + (shr (u64 ((Go.bits .and .u64 x1 4294967295) * (Go.bits .and .u64 y2 4294967295))) 32))) 32))), .int .u64 (u64 ((Go.bits .and .u64 (u64 ((u64 ((shr x1 32) * (Go.bits .and .u64 y2 4294967295))) + (shr (u64 ((Go.bits .and .u64 x1 4294967295) * (Go.bits .and .u64 y2 4294967295))) 32))) 4294967295) + (u64 ((Go.bits .and .u64 x1 4294967295) * (shr y2 32))))), .int .u64 (shr (u64 ((Go.bits .and .u64 (u64 ((u64 ((shr x1 32) * (Go.bits .and .u64 y2 4294967295))) + (shr (u64 ((Go.bits .and .u64 x1 4294967295) * (Go.bits .and .u64 y2 4294967295))) 32))) 4294967295) + (u64 ((Go.bits .and .u64 x1 4294967295) * (shr y2 32))))) 32), .int .u64 (u64 ((u64 ((u64 ((shr x1 32) * (shr y2 32))) + (shr (u64 ((u64 ((shr x1 32) * (Go.bits .and .u64 y2 4294967295))) + (shr (u64 ((Go.bits .and .u64 x1 4294967295) * (Go.bits .and .u64 y2 4294967295))) 32))) 32))) + (shr (u64 ((Go.bits .and .u64 (u64 ((u64 ((shr x1 32) * (Go.bits .and .u64 y2 4294967295))) + (shr (u64 ((Go.bits .and .u64 x1 4294967295) * (Go.bits .and .u64 y2 4294967295))) 32))) 4294967295) + (u64 ((Go.bits .and .u64 x1 4294967295) * (shr y2 32))))) 32))), undef, undef, undef], []⟩) (by kernel_rfl) ?_
  refine wpList_nil ?_
  refine hK24 _ _ ?_
  refine wp_seq_k (fun K25 hK26 => ?_)
  refine wp_region_lit ?_
  refine seqS4 (a' := ⟨#[.int .u64 x1, .int .u64 y2, undef, undef, .int .u64 (u64 ((u64 ((u64 ((shr x1 32) * (shr y2 32))) + (shr (u64 ((u64 ((shr x1 32) * (Go.bits .and .u64 y2 4294967295))) + (shr (u64 ((Go.bits .and .u64 x1 4294967295) * (Go.bits .and .u64 y2 4294967295))) 32))) 32))) + (shr (u64 ((Go.bits .and .u64 (u64 ((u64 ((shr x1 32) * (Go.bits .and .u64 y2 4294967295))) + (shr (u64 ((Go.bits .and .u64 x1 4294967295) * (Go.bits .and .u64 y2 4294967295))) 32))) 4294967295) + (u64 ((Go.bits .and .u64 x1 4294967295) * (shr y2 32))))) 32))), .int .u64 (u64 (x1 * y2)), .int .u64 (Go.bits .and .u64 x1 4294967295), .int .u64 (shr x1 32), .int .u64 (Go.bits .and .u64 y2 4294967295), .int .u64 (shr y2 32), .int .u64 (u64 ((Go.bits .and .u64 x1 4294967295) * (Go.bits .and .u64 y2 4294967295))), .int .u64 (u64 ((u64 ((shr x1 32) * (Go.bits .and .u64 y2 4294967295))) + (shr (u64 ((Go.bits .and .u64 x1 4294967295) * (Go.bits .and .u64 y2 4294967295))) 32))), .int .u64 (u64 ((Go.bits .and .u64 (u64 ((u64 ((shr x1 32) * (Go.bits .and .u64 y2 4294967295))) + (shr (u64 ((Go.bits .and .u64 x1 4294967295) * (Go.bits .and .u64 y2 4294967295))) 32))) 4294967295) + (u64 ((Go.bits .and .u64 x1 4294967295) * (shr y2 32))))), .int .u64 (shr (u64 ((u64 ((shr x1 32) * (Go.bits .and .u64 y2 4294967295))) + (shr (u64 ((Go.bits .and .u64 x1 4294967295) * (Go.bits .and .u64 y2 4294967295))) 32))) 32), .int .u64 x1, .int .u64 (Go.bits .and .u64 x1 4294967295), .int .u64 x1, .int .u64 (shr x1 32), .int .u64 y2, .int .u64 (Go.bits .and .u64 y2 4294967295), .int .u64 y2, .int .u64 (shr y2 32), .int .u64 (Go.bits .and .u64 x1 4294967295), .int .u64 (Go.bits .and .u64 y2 4294967295), .int .u64 (u64 ((Go.bits .and .u64 x1 4294967295) * (Go.bits .and .u64 y2 4294967295))), .int .u64 (shr x1 32), .int .u64 (Go.bits .and .u64 y2 4294967295), .int .u64 (u64 ((shr x1 32) * (Go.bits .and .u64 y2 4294967295))), .int .u64 (u64 ((Go.bits .and .u64 x1 4294967295) * (Go.bits .and .u64 y2 4294967295))), .int .u64 (shr (u64 ((Go.bits .and .u64 x1 4294967295) * (Go.bits .and .u64 y2 4294967295))) 32), .int .u64 (u64 ((u64 ((shr x1 32) * (Go.bits .and .u64 y2 4294967295))) + (shr (u64 ((Go.bits .and .u64 x1 4294967295) * (Go.bits .and .u64 y2 4294967295))) 32))), .int .u64 (u64 ((u64 ((shr x1 32) * (Go.bits .and .u64 y2 4294967295))) + (shr (u64 ((Go.bits .and .u64 x1 4294967295) * (Go.bits .and .u64 y2 4294967295))) 32))), .int .u64 (Go.bits .and .u64 (u64 ((u64 ((shr x1 32) * (Go.bits .and .u64 y2 4294967295))) + (shr (u64 ((Go.bits .and .u64 x1 4294967295) * (Go.bits .and .u64 y2 4294967295))) 32))) 4294967295), .int .u64 (u64 ((u64 ((shr x1 32) * (Go.bits .and .u64 y2 4294967295))) + (shr (u64 ((Go.bits .and .u64 x1 4294967295) * (Go.bits .and .u64 y2 4294967295))) 32))), .int .u64 (shr (u64 ((u64 ((shr x1 32) * (Go.bits .and .u64 y2 4294967295))) + (shr (u64 ((Go.bits .and .u64 x1 4294967295) * (Go.bits .and .u64 y2 4294967295))) 32))) 32), .int .u64 (Go.bits .and .u64 (u64 ((u64 ((shr x1 32) * (Go.bits .and .u64 y2 4294967295))) + (shr (u64 ((Go.bits .and .u64 x1 4294967295) * (Go.bits .and .u64 y2 4294967295))) 32))) 4294967295), .int .u64 (Go.bits .and .u64 x1 4294967295), .int .u64 (shr y2 32), .int .u64 (u64 ((Go.bits .and .u64 x1 4294967295) * (shr y2 32))), .int .u64 (u64 ((Go.bits .and .u64 (u64 ((u64 ((shr x1 32) * (Go.bits .and .u64 y2 4294967295))) + (shr (u64 ((Go.bits .and .u64 x1 4294967295) * (Go.bits .and .u64 y2 4294967295))) 32))) 4294967295) + (u64 ((Go.bits .and .u64 x1 4294967295) * (shr y2 32))))), .int .u64 (shr x1 32), .int .u64 (shr y2 32), .int .u64 (u64 ((shr x1 32) * (shr y2 32))), .int .u64 (shr (u64 ((u64 ((shr x1 32) * (Go.bits .and .u64 y2 4294967295))) + (shr (u64 ((Go.bits .and .u64 x1 4294967295) * (Go.bits .and .u64 y2 4294967295))) 32))) 32), .int .u64 (u64 ((u64 ((shr x1 32) * (shr y2 32))) + (shr (u64 ((u64 ((shr x1 32) * (Go.bits .and .u64 y2 4294967295))) + (shr (u64 ((Go.bits .and .u64 x1 4294967295) * (Go.bits .and .u64 y2 4294967295))) 32))) 32))), .int .u64 (u64 ((Go.bits .and .u64 (u64 ((u64 ((shr x1 32) * (Go.bits .and .u64 y2 4294967295))) + (shr (u64 ((Go.bits .and .u64 x1 4294967295) * (Go.bits .and .u64 y2 4294967295))) 32))) 4294967295) + (u64 ((Go.bits .and .u64 x1 4294967295) * (shr y2 32))))), .int .u64 (shr (u64 ((Go.bits .and .u64 (u64 ((u64 ((shr x1 32) * (Go.bits .and .u64 y2 4294967295))) + (shr (u64 ((Go.bits .and .u64 x1 4294967295) * (Go.bits .and .u64 y2 4294967295))) 32))) 4294967295) + (u64 ((Go.bits .and .u64 x1 4294967295) * (shr y2 32))))) 32), .int .u64 (u64 ((u64 ((u64 ((shr x1 32) * (shr y2 32))) + (shr (u64 ((u64 ((shr x1 32) * (Go.bits .and .u64 y2 4294967295))) + (shr (u64 ((Go.bits .and .u64 x1 4294967295) * (Go.bits .and .u64 y2 4294967295))) 32))) 32))) + (shr (u64 ((Go.bits .and .u64 (u64 ((u64 ((shr x1 32) * (Go.bits .and .u64 y2 4294967295))) + (shr (u64 ((Go.bits .and .u64 x1 4294967295) * (Go.bits .and .u64 y2 4294967295))) 32))) 4294967295) + (u64 ((Go.bits .and .u64 x1 4294967295) * (shr y2 32))))) 32))), .int .u64 x1, .int .u64 y2, .int .u64 (u64 (x1 * y2))], []⟩) (by kernel_rfl) ?_
  refine wpList_nil ?_
  refine hK26 _ _ ?_
  refine wp_ret ?_
  refine hret _ _ ?_
  refine ends_still (v := Value.tuple #[.int .u64 (u64 ((u64 ((u64 ((shr x1 32) * (shr y2 32))) + (shr (u64 ((u64 ((shr x1 32) * (Go.bits .and .u64 y2 4294967295))) + (shr (u64 ((Go.bits .and .u64 x1 4294967295) * (Go.bits .and .u64 y2 4294967295))) 32))) 32))) + (shr (u64 ((Go.bits .and .u64 (u64 ((u64 ((shr x1 32) * (Go.bits .and .u64 y2 4294967295))) + (shr (u64 ((Go.bits .and .u64 x1 4294967295) * (Go.bits .and .u64 y2 4294967295))) 32))) 4294967295) + (u64 ((Go.bits .and .u64 x1 4294967295) * (shr y2 32))))) 32))), .int .u64 (u64 (x1 * y2))]) (by kernel_rfl) (by kernel_rfl) ?_
  injection h with h
  injection h with h0_ h
  subst h0_ h
  exact ⟨f, rfl, FM.le.refl _, HS⟩

set_option maxRecDepth 100000 in
set_option maxHeartbeats 4000000 in
theorem quanta_Below.calls (k : Nat)  (x1 : Int) (n2 : Int) {t w : World} {f : FM} {H : List Seg} (HS : St t w f (H)) (r1 : Int) (h : quanta_Below k x1 n2 = some r1) :
    Calls Try.prog 39 #[.int .u64 x1, .int .i64 n2] w (fun e w' => ∃ (g : FM), e = .returned (Value.int .i64 r1) ∧ FM.le f g ∧ St t w' g (H)) := by
  unfold quanta_Below at h
  refine enter Try.func39 rfl (tm := #[.int .u64 x1, .int .i64 n2, undef, undef, undef, undef, undef, undef, undef, undef, undef, undef, undef, undef, undef, undef, undef, undef]) (by kernel_rfl) ?_
  intro B hret hnor hnp
  refine wp_seq_k (fun K3 hK4 => ?_)
  refine wp_region_lit ?_
  refine seqS1 (a' := ⟨#[.int .u64 x1, .int .i64 n2, undef, undef, .int .i64 0, undef, undef, undef, undef, undef, undef, undef, undef, undef, undef, undef, undef, undef], []⟩) (by kernel_rfl) ?_
  refine wpList_nil ?_
  refine hK4 _ _ ?_
  refine wp_seq_k (fun K5 hK6 => ?_)
  refine wp_seq_k (fun K7 hK8 => ?_)
  refine wp_region_lit ?_
  refine seqS2 (a' := ⟨#[.int .u64 x1, .int .i64 n2, undef, undef, .int .i64 0, undef, undef, .int .i64 n2, .bool (decide (n2 < 1)), undef, undef, undef, undef, undef, undef, undef, undef, undef], []⟩) (by kernel_rfl) ?_
  refine wpList_nil ?_
  refine hK8 _ _ ?_
  have hq_ := ite_some h; clear h; rcases hq_ with ⟨c10, h⟩ | ⟨c10, h⟩
  · have c10 : n2 < 1 := c10
    refine wpRwI 8 (x := (decide (n2 < 1))) (v := true) (by kernel_rfl) (decide_eq_true c10) ?_
    refine condT (by kernel_rfl) ?_
    refine wp_seq_k (fun K11 hK12 => ?_)
    refine wp_region_lit ?_
    refine seqS1 (a' := ⟨#[.int .u64 x1, .int .i64 n2, undef, undef, .int .i64 0, undef, undef, .int .i64 n2, .bool true, undef, undef, undef, undef, undef, undef, undef, undef, undef], []⟩) (by kernel_rfl) ?_
    refine wpList_nil ?_
    refine hK12 _ _ ?_
    refine wp_ret ?_
    refine hret _ _ ?_
    refine ends_still (v := Value.int .i64 0) (by kernel_rfl) (by kernel_rfl) ?_
    injection h with h
    subst h
    exact ⟨f, rfl, FM.le.refl _, HS⟩
  · have c10 : ¬ (n2 < 1) := c10
    refine wpRwI 8 (x := (decide (n2 < 1))) (v := false) (by kernel_rfl) (decide_eq_false c10) ?_
    refine condF (by kernel_rfl) ?_
    refine wp_skip ?_
    refine hK6 _ _ ?_
    refine wp_seq_k (fun K13 hK14 => ?_)
    refine wp_region_lit ?_
    have hq_ := bind_some h; clear h; obtain ⟨⟨vt15, vt16⟩, hc17, h⟩ := hq_
    refine seqL3 (by kernel_rfl) ?_
    refine seqK rfl (does_call (f := 58) (args := #[.int .u64 x1, .int .u64 (u64 (n2))]) (by kernel_rfl) (bits_Mul64.calls k x1 (u64 (n2)) HS vt15 vt16 hc17) ?_)
    rintro _ W20 ⟨f18, rfl, L19, HS21⟩
    refine ⟨_, rfl, ?_⟩
    refine seqS5 (a' := ⟨#[.int .u64 x1, .int .i64 n2, undef, undef, .int .i64 0, .int .u64 vt15, .int .u64 vt16, .int .i64 n2, .bool false, .tuple #[.int .u64 vt15, .int .u64 vt16], .int .u64 x1, .int .i64 n2, .int .u64 (u64 (n2)), .tuple #[.int .u64 vt15, .int .u64 vt16], .int .u64 vt15, .int .u64 vt16, undef, undef], []⟩) (by kernel_rfl) ?_
    refine wpList_nil ?_
    refine hK14 _ _ ?_
    refine wp_seq_k (fun K22 hK23 => ?_)
    refine wp_region_lit ?_
    refine seqS3 (a' := ⟨#[.int .u64 x1, .int .i64 n2, undef, undef, .int .i64 (w64 (vt15)), .int .u64 vt15, .int .u64 vt16, .int .i64 n2, .bool false, .tuple #[.int .u64 vt15, .int .u64 vt16], .int .u64 x1, .int .i64 n2, .int .u64 (u64 (n2)), .tuple #[.int .u64 vt15, .int .u64 vt16], .int .u64 vt15, .int .u64 vt16, .int .u64 vt15, .int .i64 (w64 (vt15))], []⟩) (by kernel_rfl) ?_
    refine wpList_nil ?_
    refine hK23 _ _ ?_
    refine wp_ret ?_
    refine hret _ _ ?_
    refine ends_still (v := Value.int .i64 (w64 (vt15))) (by kernel_rfl) (by kernel_rfl) ?_
    injection h with h
    subst h
    exact ⟨f18, rfl, L19, HS21⟩

set_option maxRecDepth 100000 in
set_option maxHeartbeats 4000000 in
theorem quanta_Deck.calls (k : Nat)  (seed1 : Int) (n2 : Int) (vk3 : Int) {t w : World} {f : FM} {H : List Seg} (HS : St t w f (H)) (r1 : List Int) (r2 : Int) (h : quanta_Deck k seed1 n2 vk3 = some (r1, r2)) :
    Calls Try.prog 28 #[.int .u64 seed1, .int .i64 n2, .int .i64 vk3] w (fun e w' => ∃ (g : FM) (A308 : Option Addr) (c309 : Nat) (s310 : Seg), e = .returned (Value.tuple #[.slice A308 r1.length c309, .int .i64 r2]) ∧ FM.le f g ∧ St t w' g (s310 :: H) ∧ Own (tInt .i64) 3 g A308 c309 s310 r1) := by
  unfold quanta_Deck at h
  refine enter Try.func28 rfl (tm := #[.int .u64 seed1, .int .i64 n2, .int .i64 vk3, undef, undef, undef, undef, undef, undef, undef, undef, undef, undef, undef, undef, undef, undef, undef, undef, undef, undef, undef, undef, undef, undef, undef, undef, undef, undef, undef, undef, undef, undef, undef, undef, undef, undef, undef, undef, undef, undef, undef, undef, undef, undef, undef, undef, undef, undef, undef, undef, undef, undef, undef, undef, undef, undef, undef, undef, undef, undef, undef, undef, undef, undef, undef, undef, undef, undef, undef, undef]) (by kernel_rfl) ?_
  intro B hret hnor hnp
  refine wp_seq_k (fun K4 hK5 => ?_)
  refine wp_region_lit ?_
  refine seqS2 (a' := ⟨#[.int .u64 seed1, .int .i64 n2, .int .i64 vk3, undef, undef, undef, .slice none 0 0, .int .i64 0, undef, undef, undef, undef, undef, undef, undef, undef, undef, undef, undef, undef, undef, undef, undef, undef, undef, undef, undef, undef, undef, undef, undef, undef, undef, undef, undef, undef, undef, undef, undef, undef, undef, undef, undef, undef, undef, undef, undef, undef, undef, undef, undef, undef, undef, undef, undef, undef, undef, undef, undef, undef, undef, undef, undef, undef, undef, undef, undef, undef, undef, undef, undef], []⟩) (by kernel_rfl) ?_
  refine wpList_nil ?_
  refine hK5 _ _ ?_
  refine wp_seq_k (fun K6 hK7 => ?_)
  refine blockK (fun B8 hx9 hn10 hr11 ho12 hp13 => ?_)
  refine wp_seq_k (fun K15 hK16 => ?_)
  refine wp_region_lit ?_
  refine seqS3 (a' := ⟨#[.int .u64 seed1, .int .i64 n2, .int .i64 vk3, undef, undef, undef, .slice none 0 0, .int .i64 0, undef, undef, undef, undef, undef, .int .i64 n2, .bool (decide (n2 < 0)), .bool (decide (n2 < 0)), undef, undef, undef, undef, undef, undef, undef, undef, undef, undef, undef, undef, undef, undef, undef, undef, undef, undef, undef, undef, undef, undef, undef, undef, undef, undef, undef, undef, undef, undef, undef, undef, undef, undef, undef, undef, undef, undef, undef, undef, undef, undef, undef, undef, undef, undef, undef, undef, undef, undef, undef, undef, undef, undef, undef], []⟩) (by kernel_rfl) ?_
  have hq_ := ite_some h; clear h; rcases hq_ with ⟨c17, h⟩ | ⟨c17, h⟩
  · have c17 : n2 < 0 := c17
    refine seqRwI 14 (x := (decide (n2 < 0))) (v := true) (by kernel_rfl) (decide_eq_true c17) ?_
    refine seqRwI 15 (x := (decide (n2 < 0))) (v := true) (by kernel_rfl) (decide_eq_true c17) ?_
    refine seqS4 (a' := ⟨#[.int .u64 seed1, .int .i64 n2, .int .i64 vk3, undef, undef, undef, .slice none 0 0, .int .i64 0, undef, undef, undef, undef, .bool true, .int .i64 n2, .bool true, .bool true, undef, undef, .bool true, undef, undef, undef, undef, undef, undef, undef, undef, undef, undef, undef, undef, undef, undef, undef, undef, undef, undef, undef, undef, undef, undef, undef, undef, undef, undef, undef, undef, undef, undef, undef, undef, undef, undef, undef, undef, undef, undef, undef, undef, undef, undef, undef, undef, undef, undef, undef, undef, undef, undef, undef, undef], []⟩) (by kernel_rfl) ?_
    refine wpList_nil ?_
    refine hK16 _ _ ?_
    refine condT (by kernel_rfl) ?_
    refine wp_seq_k (fun K18 hK19 => ?_)
    refine wp_region_lit ?_
    refine seqS2 (a' := ⟨#[.int .u64 seed1, .int .i64 n2, .int .i64 vk3, undef, undef, undef, .slice none 0 0, .int .i64 4, undef, undef, undef, undef, .bool true, .int .i64 n2, .bool true, .bool true, undef, undef, .bool true, undef, undef, undef, undef, undef, undef, undef, undef, undef, undef, undef, undef, undef, undef, undef, undef, undef, undef, undef, undef, undef, undef, undef, undef, undef, undef, undef, undef, undef, undef, undef, undef, undef, undef, undef, undef, undef, undef, undef, undef, undef, undef, undef, undef, undef, undef, undef, undef, undef, undef, undef, undef], []⟩) (by kernel_rfl) ?_
    refine wpList_nil ?_
    refine hK19 _ _ ?_
    refine wp_ret ?_
    refine hr11 _ _ ?_
    refine hret _ _ ?_
    have HS300 := HS.cons_nil
    refine ends_still (v := Value.tuple #[.slice none 0 0, .int .i64 4]) (by kernel_rfl) (by kernel_rfl) ?_
    injection h with h
    injection h with h0_ h
    subst h0_ h
    exact ⟨f, none, 0, [], rfl, FM.le.refl _, HS300, (Own.nil _)⟩
  · have c17 : ¬ (n2 < 0) := c17
    refine seqRwI 14 (x := (decide (n2 < 0))) (v := false) (by kernel_rfl) (decide_eq_false c17) ?_
    refine seqRwI 15 (x := (decide (n2 < 0))) (v := false) (by kernel_rfl) (decide_eq_false c17) ?_
    refine seqS4 (a' := ⟨#[.int .u64 seed1, .int .i64 n2, .int .i64 vk3, undef, undef, undef, .slice none 0 0, .int .i64 0, undef, undef, undef, undef, .bool (decide (n2 > 4096)), .int .i64 n2, .bool false, .bool false, .int .i64 n2, .bool (decide (n2 > 4096)), .bool (decide (n2 > 4096)), undef, undef, undef, undef, undef, undef, undef, undef, undef, undef, undef, undef, undef, undef, undef, undef, undef, undef, undef, undef, undef, undef, undef, undef, undef, undef, undef, undef, undef, undef, undef, undef, undef, undef, undef, undef, undef, undef, undef, undef, undef, undef, undef, undef, undef, undef, undef, undef, undef, undef, undef, undef], []⟩) (by kernel_rfl) ?_
    refine wpList_nil ?_
    refine hK16 _ _ ?_
    have hq_ := ite_some h; clear h; rcases hq_ with ⟨c21, h⟩ | ⟨c21, h⟩
    · have c21 : n2 > 4096 := c21
      refine wpRwI 12 (x := (decide (n2 > 4096))) (v := true) (by kernel_rfl) (decide_eq_true c21) ?_
      refine wpRwI 17 (x := (decide (n2 > 4096))) (v := true) (by kernel_rfl) (decide_eq_true c21) ?_
      refine wpRwI 18 (x := (decide (n2 > 4096))) (v := true) (by kernel_rfl) (decide_eq_true c21) ?_
      refine condT (by kernel_rfl) ?_
      refine wp_seq_k (fun K22 hK23 => ?_)
      refine wp_region_lit ?_
      refine seqS2 (a' := ⟨#[.int .u64 seed1, .int .i64 n2, .int .i64 vk3, undef, undef, undef, .slice none 0 0, .int .i64 4, undef, undef, undef, undef, .bool true, .int .i64 n2, .bool false, .bool false, .int .i64 n2, .bool true, .bool true, undef, undef, undef, undef, undef, undef, undef, undef, undef, undef, undef, undef, undef, undef, undef, undef, undef, undef, undef, undef, undef, undef, undef, undef, undef, undef, undef, undef, undef, undef, undef, undef, undef, undef, undef, undef, undef, undef, undef, undef, undef, undef, undef, undef, undef, undef, undef, undef, undef, undef, undef, undef], []⟩) (by kernel_rfl) ?_
      refine wpList_nil ?_
      refine hK23 _ _ ?_
      refine wp_ret ?_
      refine hr11 _ _ ?_
      refine hret _ _ ?_
      have HS302 := HS.cons_nil
      refine ends_still (v := Value.tuple #[.slice none 0 0, .int .i64 4]) (by kernel_rfl) (by kernel_rfl) ?_
      injection h with h
      injection h with h0_ h
      subst h0_ h
      exact ⟨f, none, 0, [], rfl, FM.le.refl _, HS302, (Own.nil _)⟩
    · have c21 : ¬ (n2 > 4096) := c21
      refine wpRwI 12 (x := (decide (n2 > 4096))) (v := false) (by kernel_rfl) (decide_eq_false c21) ?_
      refine wpRwI 17 (x := (decide (n2 > 4096))) (v := false) (by kernel_rfl) (decide_eq_false c21) ?_
      refine wpRwI 18 (x := (decide (n2 > 4096))) (v := false) (by kernel_rfl) (decide_eq_false c21) ?_
      refine condF (by kernel_rfl) ?_
      refine wp_seq_k (fun K24 hK25 => ?_)
      refine wp_region_lit ?_
      refine seqS3 (a' := ⟨#[.int .u64 seed1, .int .i64 n2, .int .i64 vk3, undef, undef, undef, .slice none 0 0, .int .i64 0, undef, undef, undef, undef, .bool false, .int .i64 n2, .bool false, .bool false, .int .i64 n2, .bool false, .bool false, undef, .int .i64 vk3, .bool (decide (vk3 < 0)), .bool (decide (vk3 < 0)), undef, undef, undef, undef, undef, undef, undef, undef, undef, undef, undef, undef, undef, undef, undef, undef, undef, undef, undef, undef, undef, undef, undef, undef, undef, undef, undef, undef, undef, undef, undef, undef, undef, undef, undef, undef, undef, undef, undef, undef, undef, undef, undef, undef, undef, undef, undef, undef], []⟩) (by kernel_rfl) ?_
      have hq_ := ite_some h; clear h; rcases hq_ with ⟨c26, h⟩ | ⟨c26, h⟩
      · have c26 : vk3 < 0 := c26
        refine seqRwI 21 (x := (decide (vk3 < 0))) (v := true) (by kernel_rfl) (decide_eq_true c26) ?_
        refine seqRwI 22 (x := (decide (vk3 < 0))) (v := true) (by kernel_rfl) (decide_eq_true c26) ?_
        refine seqS5 (a' := ⟨#[.int .u64 seed1, .int .i64 n2, .int .i64 vk3, undef, undef, undef, .slice none 0 0, .int .i64 0, undef, undef, undef, undef, .bool false, .int .i64 n2, .bool false, .bool false, .int .i64 n2, .bool false, .bool false, .bool true, .int .i64 vk3, .bool true, .bool true, undef, undef, undef, .bool true, undef, undef, undef, undef, undef, undef, undef, undef, undef, undef, undef, undef, undef, undef, undef, undef, undef, undef, undef, undef, undef, undef, undef, undef, undef, undef, undef, undef, undef, undef, undef, undef, undef, undef, undef, undef, undef, undef, undef, undef, undef, undef, undef, undef], []⟩) (by kernel_rfl) ?_
        refine wpList_nil ?_
        refine hK25 _ _ ?_
        refine condT (by kernel_rfl) ?_
        refine wp_seq_k (fun K27 hK28 => ?_)
        refine wp_region_lit ?_
        refine seqS2 (a' := ⟨#[.int .u64 seed1, .int .i64 n2, .int .i64 vk3, undef, undef, undef, .slice none 0 0, .int .i64 1, undef, undef, undef, undef, .bool false, .int .i64 n2, .bool false, .bool false, .int .i64 n2, .bool false, .bool false, .bool true, .int .i64 vk3, .bool true, .bool true, undef, undef, undef, .bool true, undef, undef, undef, undef, undef, undef, undef, undef, undef, undef, undef, undef, undef, undef, undef, undef, undef, undef, undef, undef, undef, undef, undef, undef, undef, undef, undef, undef, undef, undef, undef, undef, undef, undef, undef, undef, undef, undef, undef, undef, undef, undef, undef, undef], []⟩) (by kernel_rfl) ?_
        refine wpList_nil ?_
        refine hK28 _ _ ?_
        refine wp_ret ?_
        refine hr11 _ _ ?_
        refine hret _ _ ?_
        have HS304 := HS.cons_nil
        refine ends_still (v := Value.tuple #[.slice none 0 0, .int .i64 1]) (by kernel_rfl) (by kernel_rfl) ?_
        injection h with h
        injection h with h0_ h
        subst h0_ h
        exact ⟨f, none, 0, [], rfl, FM.le.refl _, HS304, (Own.nil _)⟩
      · have c26 : ¬ (vk3 < 0) := c26
        refine seqRwI 21 (x := (decide (vk3 < 0))) (v := false) (by kernel_rfl) (decide_eq_false c26) ?_
        refine seqRwI 22 (x := (decide (vk3 < 0))) (v := false) (by kernel_rfl) (decide_eq_false c26) ?_
        refine seqS5 (a' := ⟨#[.int .u64 seed1, .int .i64 n2, .int .i64 vk3, undef, undef, undef, .slice none 0 0, .int .i64 0, undef, undef, undef, undef, .bool false, .int .i64 n2, .bool false, .bool false, .int .i64 n2, .bool false, .bool false, .bool (decide (vk3 > n2)), .int .i64 vk3, .bool false, .bool false, .int .i64 vk3, .int .i64 n2, .bool (decide (vk3 > n2)), .bool (decide (vk3 > n2)), undef, undef, undef, undef, undef, undef, undef, undef, undef, undef, undef, undef, undef, undef, undef, undef, undef, undef, undef, undef, undef, undef, undef, undef, undef, undef, undef, undef, undef, undef, undef, undef, undef, undef, undef, undef, undef, undef, undef, undef, undef, undef, undef, undef], []⟩) (by kernel_rfl) ?_
        refine wpList_nil ?_
        refine hK25 _ _ ?_
        have hq_ := ite_some h; clear h; rcases hq_ with ⟨c30, h⟩ | ⟨c30, h⟩
        · have c30 : vk3 > n2 := c30
          refine wpRwI 19 (x := (decide (vk3 > n2))) (v := true) (by kernel_rfl) (decide_eq_true c30) ?_
          refine wpRwI 25 (x := (decide (vk3 > n2))) (v := true) (by kernel_rfl) (decide_eq_true c30) ?_
          refine wpRwI 26 (x := (decide (vk3 > n2))) (v := true) (by kernel_rfl) (decide_eq_true c30) ?_
          refine condT (by kernel_rfl) ?_
          refine wp_seq_k (fun K31 hK32 => ?_)
          refine wp_region_lit ?_
          refine seqS2 (a' := ⟨#[.int .u64 seed1, .int .i64 n2, .int .i64 vk3, undef, undef, undef, .slice none 0 0, .int .i64 1, undef, undef, undef, undef, .bool false, .int .i64 n2, .bool false, .bool false, .int .i64 n2, .bool false, .bool false, .bool true, .int .i64 vk3, .bool false, .bool false, .int .i64 vk3, .int .i64 n2, .bool true, .bool true, undef, undef, undef, undef, undef, undef, undef, undef, undef, undef, undef, undef, undef, undef, undef, undef, undef, undef, undef, undef, undef, undef, undef, undef, undef, undef, undef, undef, undef, undef, undef, undef, undef, undef, undef, undef, undef, undef, undef, undef, undef, undef, undef, undef], []⟩) (by kernel_rfl) ?_
          refine wpList_nil ?_
          refine hK32 _ _ ?_
          refine wp_ret ?_
          refine hr11 _ _ ?_
          refine hret _ _ ?_
          have HS306 := HS.cons_nil
          refine ends_still (v := Value.tuple #[.slice none 0 0, .int .i64 1]) (by kernel_rfl) (by kernel_rfl) ?_
          injection h with h
          injection h with h0_ h
          subst h0_ h
          exact ⟨f, none, 0, [], rfl, FM.le.refl _, HS306, (Own.nil _)⟩
        · have c30 : ¬ (vk3 > n2) := c30
          refine wpRwI 19 (x := (decide (vk3 > n2))) (v := false) (by kernel_rfl) (decide_eq_false c30) ?_
          refine wpRwI 25 (x := (decide (vk3 > n2))) (v := false) (by kernel_rfl) (decide_eq_false c30) ?_
          refine wpRwI 26 (x := (decide (vk3 > n2))) (v := false) (by kernel_rfl) (decide_eq_false c30) ?_
          refine condF (by kernel_rfl) ?_
          refine wp_skip ?_
          refine hn10 _ _ ?_
          refine hK7 _ _ ?_
          refine wp_seq_k (fun K33 hK34 => ?_)
          refine wp_region_lit ?_
          have hq_ := guard_some h; clear h; obtain ⟨c35, h⟩ := hq_
          have c35 : 0 ≤ n2 := c35
          have hq_ := guard_some h; clear h; obtain ⟨c36, h⟩ := hq_
          have c36 : n2 * 8 ≤ 140737488355328 := c36
          refine seqL1 (by kernel_rfl) ?_
          refine seqK rfl (does_make (e := (tInt .i64)) (E := 3) (u := 0) (n := n2) rfl (by kernel_rfl : _ = Value.int .i64 n2) (by kernel_rfl : _ = Value.int .i64 n2) Try.underlying40 inf3 c35 c36 (by omega) rfl HS ?_)
          intro b37 W38 s39 HS40 HO41
          refine seqS1 (a' := ⟨#[.int .u64 seed1, .int .i64 n2, .int .i64 vk3, undef, undef, undef, .slice none 0 0, .int .i64 0, .slice (some ⟨b37, 0, none⟩) (List.replicate (n2).toNat (0 : Int)).length (n2).toNat, undef, undef, undef, .bool false, .int .i64 n2, .bool false, .bool false, .int .i64 n2, .bool false, .bool false, .bool false, .int .i64 vk3, .bool false, .bool false, .int .i64 vk3, .int .i64 n2, .bool false, .bool false, .int .i64 n2, .slice (some ⟨b37, 0, none⟩) (List.replicate (n2).toNat (0 : Int)).length (n2).toNat, undef, undef, undef, undef, undef, undef, undef, undef, undef, undef, undef, undef, undef, undef, undef, undef, undef, undef, undef, undef, undef, undef, undef, undef, undef, undef, undef, undef, undef, undef, undef, undef, undef, undef, undef, undef, undef, undef, undef, undef, undef, undef], []⟩) (by kernel_rfl) ?_
          refine wpList_nil ?_
          refine hK34 _ _ ?_
          refine wp_seq_k (fun K43 hK44 => ?_)
          refine wp_seq_k (fun K45 hK46 => ?_)
          refine wp_region_lit ?_
          refine seqS3 (a' := ⟨#[.int .u64 seed1, .int .i64 n2, .int .i64 vk3, undef, undef, undef, .slice none 0 0, .int .i64 0, .slice (some ⟨b37, 0, none⟩) (List.replicate (n2).toNat (0 : Int)).length (n2).toNat, undef, undef, undef, .bool false, .int .i64 n2, .bool false, .bool false, .int .i64 n2, .bool false, .bool false, .bool false, .int .i64 vk3, .bool false, .bool false, .int .i64 vk3, .int .i64 n2, .bool false, .bool false, .int .i64 n2, .slice (some ⟨b37, 0, none⟩) (List.replicate (n2).toNat (0 : Int)).length (n2).toNat, .slice (some ⟨b37, 0, none⟩) (List.replicate (n2).toNat (0 : Int)).length (n2).toNat, .int .i64 ((List.replicate (n2).toNat (0 : Int)).length : Int), .int .i64 0, undef, undef, undef, undef, undef, undef, undef, undef, undef, undef, undef, undef, undef, undef, undef, undef, undef, undef, undef, undef, undef, undef, undef, undef, undef, undef, undef, undef, undef, undef, undef, undef, undef, undef, undef, undef, undef, undef, undef], []⟩) (by kernel_rfl) ?_
          refine wpList_nil ?_
          refine hK46 _ _ ?_
          refine blockK (fun B47 hx48 hn49 hr50 ho51 hp52 => ?_)
          have hq_ := bind_some h; clear h; obtain ⟨o88, hv137, h⟩ := hq_
          have J138 : ∀ (f128 : FM) (s134 : Seg) (deck133 : List Int) (j132 : Nat → Value) (W130 : World) (a_ : Act), FM.le f f128 → some (deck133) = some o88 → St t W130 f128 (s134 :: H) → Own (tInt .i64) 3 f128 (some ⟨b37, 0, none⟩) (n2).toNat s134 deck133 → deck133.length = (List.replicate (n2).toNat (0 : Int)).length → a_ = ⟨#[.int .u64 seed1, .int .i64 n2, .int .i64 vk3, undef, undef, undef, .slice none 0 0, .int .i64 0, .slice (some ⟨b37, 0, none⟩) deck133.length (n2).toNat, (j132 0), undef, undef, .bool false, .int .i64 n2, .bool false, .bool false, .int .i64 n2, .bool false, .bool false, .bool false, .int .i64 vk3, .bool false, .bool false, .int .i64 vk3, .int .i64 n2, .bool false, .bool false, .int .i64 n2, (j132 1), (j132 2), .int .i64 ((List.replicate (n2).toNat (0 : Int)).length : Int), (j132 3), (j132 4), (j132 5), (j132 6), (j132 7), (j132 8), (j132 9), (j132 10), undef, undef, undef, undef, undef, undef, undef, undef, undef, undef, undef, undef, undef, undef, undef, undef, undef, undef, undef, undef, undef, undef, undef, undef, undef, undef, undef, undef, undef, undef, undef, undef], []⟩ → K43 a_ W130 := by
            intro f128 s134 deck133 j132 W130 a_ L129 hj139 HS131 HO135 HL136 hfr_; subst hfr_
            injection hj139 with hj139; subst hj139; try dsimp only at h
            refine hK44 _ _ ?_
            refine wp_seq_k (fun K140 hK141 => ?_)
            refine wp_seq_k (fun K142 hK143 => ?_)
            refine wp_region_lit ?_
            refine seqS2 (a' := ⟨#[.int .u64 seed1, .int .i64 n2, .int .i64 vk3, undef, undef, undef, .slice none 0 0, .int .i64 0, .slice (some ⟨b37, 0, none⟩) deck133.length (n2).toNat, (j132 0), undef, undef, .bool false, .int .i64 n2, .bool false, .bool false, .int .i64 n2, .bool false, .bool false, .bool false, .int .i64 vk3, .bool false, .bool false, .int .i64 vk3, .int .i64 n2, .bool false, .bool false, .int .i64 n2, (j132 1), (j132 2), .int .i64 ((List.replicate (n2).toNat (0 : Int)).length : Int), (j132 3), (j132 4), (j132 5), (j132 6), (j132 7), (j132 8), (j132 9), (j132 10), .int .i64 vk3, .int .i64 0, undef, undef, undef, undef, undef, undef, undef, undef, undef, undef, undef, undef, undef, undef, undef, undef, undef, undef, undef, undef, undef, undef, undef, undef, undef, undef, undef, undef, undef, undef], []⟩) (by kernel_rfl) ?_
            refine wpList_nil ?_
            refine hK143 _ _ ?_
            refine blockK (fun B144 hx145 hn146 hr147 ho148 hp149 => ?_)
            have hq_ := bind_some h; clear h; obtain ⟨o215, hv293, h⟩ := hq_
            have J294 : ∀ (f284 : FM) (s290 : Seg) (deck289 : List Int) (j288 : Nat → Value) (W286 : World) (a_ : Act), FM.le f128 f284 → some (deck289) = some o215 → St t W286 f284 (s290 :: H) → Own (tInt .i64) 3 f284 (some ⟨b37, 0, none⟩) (n2).toNat s290 deck289 → deck289.length = deck133.length → a_ = ⟨#[.int .u64 seed1, .int .i64 n2, .int .i64 vk3, undef, undef, undef, .slice none 0 0, .int .i64 0, .slice (some ⟨b37, 0, none⟩) deck289.length (n2).toNat, (j132 0), (j288 0), (j288 1), .bool false, .int .i64 n2, .bool false, .bool false, .int .i64 n2, .bool false, .bool false, .bool false, .int .i64 vk3, .bool false, .bool false, .int .i64 vk3, .int .i64 n2, .bool false, .bool false, .int .i64 n2, (j132 1), (j132 2), .int .i64 ((List.replicate (n2).toNat (0 : Int)).length : Int), (j132 3), (j132 4), (j132 5), (j132 6), (j132 7), (j132 8), (j132 9), (j132 10), .int .i64 vk3, (j288 2), (j288 3), (j288 4), (j288 5), (j288 6), (j288 7), (j288 8), (j288 9), (j288 10), (j288 11), (j288 12), (j288 13), (j288 14), (j288 15), (j288 16), (j288 17), (j288 18), (j288 19), (j288 20), (j288 21), (j288 22), (j288 23), (j288 24), (j288 25), (j288 26), (j288 27), (j288 28), undef, undef, undef, undef], []⟩ → K140 a_ W286 := by
              intro f284 s290 deck289 j288 W286 a_ L285 hj295 HS287 HO291 HL292 hfr_; subst hfr_
              injection hj295 with hj295; subst hj295; try dsimp only at h
              refine hK141 _ _ ?_
              refine wp_seq_k (fun K296 hK297 => ?_)
              refine wp_region_lit ?_
              have hq_ := guard_some h; clear h; obtain ⟨c298, h⟩ := hq_
              have c298 : 0 ≤ vk3 := c298
              have hq_ := guard_some h; clear h; obtain ⟨c299, h⟩ := hq_
              have c299 : vk3 ≤ (deck289.length : Int) := c299
              refine seqL3 (by kernel_rfl) ?_
              refine seqK rfl (does_run (run_cutHM (e := (tInt .i64)) (xs := deck289) rfl Try.underlying40 (by kernel_rfl) (by kernel_rfl : _ = Value.slice (some ⟨b37, 0, none⟩) deck289.length (n2).toNat) (by kernel_rfl : _ = Value.int .i64 vk3) (by kernel_rfl : _ = Value.int .i64 vk3) c298 c299 HO291.le W286) ?_)
              refine seqS2 (a' := ⟨#[.int .u64 seed1, .int .i64 n2, .int .i64 vk3, undef, undef, undef, .slice (some ⟨b37, 0, none⟩) (deck289.take (vk3).toNat).length (vk3).toNat, .int .i64 0, .slice (some ⟨b37, 0, none⟩) deck289.length (n2).toNat, (j132 0), (j288 0), (j288 1), .bool false, .int .i64 n2, .bool false, .bool false, .int .i64 n2, .bool false, .bool false, .bool false, .int .i64 vk3, .bool false, .bool false, .int .i64 vk3, .int .i64 n2, .bool false, .bool false, .int .i64 n2, (j132 1), (j132 2), .int .i64 ((List.replicate (n2).toNat (0 : Int)).length : Int), (j132 3), (j132 4), (j132 5), (j132 6), (j132 7), (j132 8), (j132 9), (j132 10), .int .i64 vk3, (j288 2), (j288 3), (j288 4), (j288 5), (j288 6), (j288 7), (j288 8), (j288 9), (j288 10), (j288 11), (j288 12), (j288 13), (j288 14), (j288 15), (j288 16), (j288 17), (j288 18), (j288 19), (j288 20), (j288 21), (j288 22), (j288 23), (j288 24), (j288 25), (j288 26), (j288 27), (j288 28), .slice (some ⟨b37, 0, none⟩) deck289.length (n2).toNat, .int .i64 vk3, .int .i64 vk3, .slice (some ⟨b37, 0, none⟩) (deck289.take (vk3).toNat).length (vk3).toNat], []⟩) (by kernel_rfl) ?_
              refine wpList_nil ?_
              refine hK297 _ _ ?_
              refine wp_ret ?_
              refine hret _ _ ?_
              refine ends_still (v := Value.tuple #[.slice (some ⟨b37, 0, none⟩) (deck289.take (vk3).toNat).length (vk3).toNat, .int .i64 0]) (by kernel_rfl) (by kernel_rfl) ?_
              injection h with h
              injection h with h0_ h
              subst h0_ h
              exact ⟨f284, (some ⟨b37, 0, none⟩), ((vk3).toNat), s290, rfl, (L129.trans L285), HS287, (HO291.takeC (vk3).toNat (by omega))⟩
            clear h; have h := hv293; clear hv293
            refine loopK (fun n_ a_ w_ => ∃ (f219 : FM) (s225 : Seg) (deck224 : List Int) (x228 : Int) (j223 : Nat → Value), FM.le f128 f219 ∧ St t w_ f219 (s225 :: H) ∧ Own (tInt .i64) 3 f219 (some ⟨b37, 0, none⟩) (n2).toNat s225 deck224 ∧ deck224.length = deck133.length ∧ quanta_Deck.l1 k vk3 seed1 n2 n_ deck224 x228 = some o215 ∧ a_ = ⟨#[.int .u64 seed1, .int .i64 n2, .int .i64 vk3, undef, undef, undef, .slice none 0 0, .int .i64 0, .slice (some ⟨b37, 0, none⟩) deck224.length (n2).toNat, (j132 0), (j223 0), (j223 1), .bool false, .int .i64 n2, .bool false, .bool false, .int .i64 n2, .bool false, .bool false, .bool false, .int .i64 vk3, .bool false, .bool false, .int .i64 vk3, .int .i64 n2, .bool false, .bool false, .int .i64 n2, (j132 1), (j132 2), .int .i64 ((List.replicate (n2).toNat (0 : Int)).length : Int), (j132 3), (j132 4), (j132 5), (j132 6), (j132 7), (j132 8), (j132 9), (j132 10), .int .i64 vk3, .int .i64 x228, (j223 2), (j223 3), (j223 4), (j223 5), (j223 6), (j223 7), (j223 8), (j223 9), (j223 10), (j223 11), (j223 12), (j223 13), (j223 14), (j223 15), (j223 16), (j223 17), (j223 18), (j223 19), (j223 20), (j223 21), (j223 22), (j223 23), (j223 24), (j223 25), (j223 26), (j223 27), undef, undef, undef, undef], []⟩) k ⟨f128, s134, deck133, 0, (fun i_ => [undef, undef, undef, undef, undef, undef, undef, undef, undef, undef, undef, undef, undef, undef, undef, undef, undef, undef, undef, undef, undef, undef, undef, undef, undef, undef, undef, undef].getD i_ undef), (FM.le.refl _), HS131, HO135, rfl, h, (by kernel_rfl)⟩ ?_
            clear h
            rintro n218 _ W221 ⟨f219, s225, deck224, x228, j223, L220, HS222, HO226, HL227, h, rfl⟩ K216 hK217
            obtain _ | n218 := n218
            · exact nomatch h
            simp only [quanta_Deck.l1] at h
            refine wp_seq_k (fun K229 hK230 => ?_)
            refine wp_region_lit ?_
            refine seqS1 (a' := ⟨#[.int .u64 seed1, .int .i64 n2, .int .i64 vk3, undef, undef, undef, .slice none 0 0, .int .i64 0, .slice (some ⟨b37, 0, none⟩) deck224.length (n2).toNat, (j132 0), (j223 0), (j223 1), .bool false, .int .i64 n2, .bool false, .bool false, .int .i64 n2, .bool false, .bool false, .bool false, .int .i64 vk3, .bool false, .bool false, .int .i64 vk3, .int .i64 n2, .bool false, .bool false, .int .i64 n2, (j132 1), (j132 2), .int .i64 ((List.replicate (n2).toNat (0 : Int)).length : Int), (j132 3), (j132 4), (j132 5), (j132 6), (j132 7), (j132 8), (j132 9), (j132 10), .int .i64 vk3, .int .i64 x228, .bool (decide (x228 < vk3)), (j223 3), (j223 4), (j223 5), (j223 6), (j223 7), (j223 8), (j223 9), (j223 10), (j223 11), (j223 12), (j223 13), (j223 14), (j223 15), (j223 16), (j223 17), (j223 18), (j223 19), (j223 20), (j223 21), (j223 22), (j223 23), (j223 24), (j223 25), (j223 26), (j223 27), undef, undef, undef, undef], []⟩) (by kernel_rfl) ?_
            refine wpList_nil ?_
            refine hK230 _ _ ?_
            refine wp_seq_k (fun K231 hK232 => ?_)
            have hq_ := ite_some h; clear h; rcases hq_ with ⟨c234, h⟩ | ⟨c234, h⟩
            · have c234 : x228 < vk3 := c234
              refine wpRwI 41 (x := (decide (x228 < vk3))) (v := true) (by kernel_rfl) (decide_eq_true c234) ?_
              refine condT (by kernel_rfl) ?_
              refine wp_skip ?_
              refine hK232 _ _ ?_
              refine wp_seq_k (fun K235 hK236 => ?_)
              refine blockK (fun B237 hx238 hn239 hr240 ho241 hp242 => ?_)
              refine wp_seq_k (fun K244 hK245 => ?_)
              refine wp_region_lit ?_
              refine seqS2 (a' := ⟨#[.int .u64 seed1, .int .i64 n2, .int .i64 vk3, undef, undef, undef, .slice none 0 0, .int .i64 0, .slice (some ⟨b37, 0, none⟩) deck224.length (n2).toNat, (j132 0), .int .i64 x228, (j223 1), .bool false, .int .i64 n2, .bool false, .bool false, .int .i64 n2, .bool false, .bool false, .bool false, .int .i64 vk3, .bool false, .bool false, .int .i64 vk3, .int .i64 n2, .bool false, .bool false, .int .i64 n2, (j132 1), (j132 2), .int .i64 ((List.replicate (n2).toNat (0 : Int)).length : Int), (j132 3), (j132 4), (j132 5), (j132 6), (j132 7), (j132 8), (j132 9), (j132 10), .int .i64 vk3, .int .i64 x228, .bool true, .int .i64 x228, (j223 4), (j223 5), (j223 6), (j223 7), (j223 8), (j223 9), (j223 10), (j223 11), (j223 12), (j223 13), (j223 14), (j223 15), (j223 16), (j223 17), (j223 18), (j223 19), (j223 20), (j223 21), (j223 22), (j223 23), (j223 24), (j223 25), (j223 26), (j223 27), undef, undef, undef, undef], []⟩) (by kernel_rfl) ?_
              refine wpList_nil ?_
              refine hK245 _ _ ?_
              refine wp_seq_k (fun K246 hK247 => ?_)
              refine wp_region_lit ?_
              have hq_ := bind_some h; clear h; obtain ⟨vt248, hc249, h⟩ := hq_
              refine seqL3 (by kernel_rfl) ?_
              refine seqK rfl (does_call (f := 40) (args := #[.int .u64 seed1, .int .i64 x228]) (by kernel_rfl) (quanta_Mix.calls k seed1 x228 HS222 vt248 hc249) ?_)
              rintro _ W252 ⟨f250, rfl, L251, HS253⟩
              refine ⟨_, rfl, ?_⟩
              have hq_ := bind_some h; clear h; obtain ⟨vt254, hc255, h⟩ := hq_
              refine seqL3 (by kernel_rfl) ?_
              refine seqK rfl (does_call (f := 39) (args := #[.int .u64 vt248, .int .i64 (w64 (n2 - x228))]) (by kernel_rfl) (quanta_Below.calls k vt248 (w64 (n2 - x228)) HS253 vt254 hc255) ?_)
              rintro _ W258 ⟨f256, rfl, L257, HS259⟩
              refine ⟨_, rfl, ?_⟩
              refine seqS2 (a' := ⟨#[.int .u64 seed1, .int .i64 n2, .int .i64 vk3, undef, undef, undef, .slice none 0 0, .int .i64 0, .slice (some ⟨b37, 0, none⟩) deck224.length (n2).toNat, (j132 0), .int .i64 x228, .int .i64 (w64 (x228 + vt254)), .bool false, .int .i64 n2, .bool false, .bool false, .int .i64 n2, .bool false, .bool false, .bool false, .int .i64 vk3, .bool false, .bool false, .int .i64 vk3, .int .i64 n2, .bool false, .bool false, .int .i64 n2, (j132 1), (j132 2), .int .i64 ((List.replicate (n2).toNat (0 : Int)).length : Int), (j132 3), (j132 4), (j132 5), (j132 6), (j132 7), (j132 8), (j132 9), (j132 10), .int .i64 vk3, .int .i64 x228, .bool true, .int .i64 x228, .int .i64 x228, .int .u64 seed1, .int .i64 x228, .int .u64 vt248, .int .i64 n2, .int .i64 x228, .int .i64 (w64 (n2 - x228)), .int .i64 vt254, .int .i64 (w64 (x228 + vt254)), (j223 13), (j223 14), (j223 15), (j223 16), (j223 17), (j223 18), (j223 19), (j223 20), (j223 21), (j223 22), (j223 23), (j223 24), (j223 25), (j223 26), (j223 27), undef, undef, undef, undef], []⟩) (by kernel_rfl) ?_
              refine wpList_nil ?_
              refine hK247 _ _ ?_
              refine heldG (S := Sg t f256 (H) [(13, s225)]) (n := 16) (by kernel_rfl) rfl HS259 ?_
              intro W260 HS261
              have hq_ := guard_some h; clear h; obtain ⟨c262, h⟩ := hq_
              have c262 : 0 ≤ (w64 (x228 + vt254)) := c262
              have hq_ := guard_some h; clear h; obtain ⟨c263, h⟩ := hq_
              have c263 : (w64 (x228 + vt254)) < (deck224.length : Int) := c263
              obtain ⟨cs264, hr265, hc266⟩ := (HO226.mono (L251.trans L257)).at' (i := w64 (x228 + vt254)) c262 c263
              obtain rfl := hr265
              refine takeG [0, 1, 2, 3, 4, 5] (n := 16) (fuel := 10) (l' := #[true, true, true, true, true, true, false, false, false, false, false, false, false, false, false, false]) (a' := ⟨#[.int .u64 seed1, .int .i64 n2, .int .i64 vk3, undef, undef, undef, .slice none 0 0, .int .i64 0, .slice (some ⟨b37, 0, none⟩) deck224.length (n2).toNat, (j132 0), .int .i64 x228, .int .i64 (w64 (x228 + vt254)), .bool false, .int .i64 n2, .bool false, .bool false, .int .i64 n2, .bool false, .bool false, .bool false, .int .i64 vk3, .bool false, .bool false, .int .i64 vk3, .int .i64 n2, .bool false, .bool false, .int .i64 n2, (j132 1), (j132 2), .int .i64 ((List.replicate (n2).toNat (0 : Int)).length : Int), (j132 3), (j132 4), (j132 5), (j132 6), (j132 7), (j132 8), (j132 9), (j132 10), .int .i64 vk3, .int .i64 x228, .bool true, .int .i64 x228, .int .i64 x228, .int .u64 seed1, .int .i64 x228, .int .u64 vt248, .int .i64 n2, .int .i64 x228, .int .i64 (w64 (n2 - x228)), .int .i64 vt254, .int .i64 (w64 (x228 + vt254)), .slice (some ⟨b37, 0, none⟩) deck224.length (n2).toNat, .int .i64 x228, .slice (some ⟨b37, 0, none⟩) deck224.length (n2).toNat, .int .i64 (w64 (x228 + vt254)), .slice (some ⟨b37, 0, none⟩) deck224.length (n2).toNat, .int .i64 (w64 (x228 + vt254)), (j223 19), (j223 20), (j223 21), (j223 22), (j223 23), (j223 24), (j223 25), (j223 26), (j223 27), undef, undef, undef, undef], []⟩) rfl (by kernel_rfl) (by kernel_rfl) (by kernel_rfl) (fun ch_ a_ w_ q_ => (fun ch_ a_ w_ q_ => hnp ch_ a_ w_ (hp149 ch_ a_ w_ q_)) ch_ a_ w_ (hp242 ch_ a_ w_ q_)) (Sg.g1 (Sx.of [s225] (FM.le.refl _) HS261) (fun _ => St.only [] HS261 (FM.le.refl _))) ?_
              refine takeGQ 6 [] rfl (by kernel_rfl) (by kernel_rfl) (by kernel_rfl) (by kernel_rfl) (by kernel_rfl) (by kernel_rfl) (fun ch_ a_ w_ q_ => (fun ch_ a_ w_ q_ => hnp ch_ a_ w_ (hp149 ch_ a_ w_ q_)) ch_ a_ w_ (hp242 ch_ a_ w_ q_)) (Sg.g1 (Sx.of [s225] (FM.le.refl _) HS261) (fun _ => St.only [] HS261 (FM.le.refl _))) (fun w_ hw_ => by obtain ⟨g_, hl_, hS_⟩ := hw_.st; exact run_index (sz := 1) rfl Try.underlying40 (by kernel_rfl) (by kernel_rfl : _ = Value.slice (some ⟨b37, 0, none⟩) deck224.length (n2).toNat) (by kernel_rfl : _ = Value.int .i64 (w64 (x228 + vt254))) c262 c263 w_) ?_
              refine takeGQ 7 [13] rfl (by kernel_rfl) (by kernel_rfl) (by kernel_rfl) (by kernel_rfl) (by kernel_rfl) (by kernel_rfl) (fun ch_ a_ w_ q_ => (fun ch_ a_ w_ q_ => hnp ch_ a_ w_ (hp149 ch_ a_ w_ q_)) ch_ a_ w_ (hp242 ch_ a_ w_ q_)) (Sg.g1 (Sx.of [s225] (FM.le.refl _) HS261) (fun _ => St.only [] HS261 (FM.le.refl _))) (fun w_ hw_ => by obtain ⟨g_, hl_, hS_⟩ := hw_.seg (j := 13) (s := s225) (by simp) (by simp); exact run_load rfl Try.underlying3 rfl (by kernel_rfl : _ = Value.pointer (some ⟨b37, 0 + (w64 (x228 + vt254) : Int).toNat * 1, none⟩)) ((hc266 hS_) 0 (by decide))) ?_
              have hq_ := guard_some h; clear h; obtain ⟨c267, h⟩ := hq_
              have c267 : 0 ≤ x228 := c267
              have hq_ := guard_some h; clear h; obtain ⟨c268, h⟩ := hq_
              have c268 : x228 < (deck224.length : Int) := c268
              obtain ⟨cs269, hr270, hc271⟩ := (HO226.mono (L251.trans L257)).at' (i := x228) c267 c268
              obtain rfl := hr270
              refine takeG [8, 9] (n := 8) (fuel := 6) (l' := #[true, true, true, true, true, true, true, true, true, true, false, false, false, false, false, false]) (a' := ⟨#[.int .u64 seed1, .int .i64 n2, .int .i64 vk3, undef, undef, undef, .slice none 0 0, .int .i64 0, .slice (some ⟨b37, 0, none⟩) deck224.length (n2).toNat, (j132 0), .int .i64 x228, .int .i64 (w64 (x228 + vt254)), .bool false, .int .i64 n2, .bool false, .bool false, .int .i64 n2, .bool false, .bool false, .bool false, .int .i64 vk3, .bool false, .bool false, .int .i64 vk3, .int .i64 n2, .bool false, .bool false, .int .i64 n2, (j132 1), (j132 2), .int .i64 ((List.replicate (n2).toNat (0 : Int)).length : Int), (j132 3), (j132 4), (j132 5), (j132 6), (j132 7), (j132 8), (j132 9), (j132 10), .int .i64 vk3, .int .i64 x228, .bool true, .int .i64 x228, .int .i64 x228, .int .u64 seed1, .int .i64 x228, .int .u64 vt248, .int .i64 n2, .int .i64 x228, .int .i64 (w64 (n2 - x228)), .int .i64 vt254, .int .i64 (w64 (x228 + vt254)), .slice (some ⟨b37, 0, none⟩) deck224.length (n2).toNat, .int .i64 x228, .slice (some ⟨b37, 0, none⟩) deck224.length (n2).toNat, .int .i64 (w64 (x228 + vt254)), .slice (some ⟨b37, 0, none⟩) deck224.length (n2).toNat, .int .i64 (w64 (x228 + vt254)), .pointer (some ⟨b37, 0 + (w64 (x228 + vt254) : Int).toNat * 1, none⟩), .int .i64 (rd deck224 (w64 (x228 + vt254))), .slice (some ⟨b37, 0, none⟩) deck224.length (n2).toNat, .int .i64 x228, (j223 23), (j223 24), (j223 25), (j223 26), (j223 27), undef, undef, undef, undef], []⟩) rfl (by kernel_rfl) (by kernel_rfl) (by kernel_rfl) (fun ch_ a_ w_ q_ => (fun ch_ a_ w_ q_ => hnp ch_ a_ w_ (hp149 ch_ a_ w_ q_)) ch_ a_ w_ (hp242 ch_ a_ w_ q_)) (Sg.g1 (Sx.of [s225] (FM.le.refl _) HS261) (fun _ => St.only [] HS261 (FM.le.refl _))) ?_
              refine takeGQ 10 [] rfl (by kernel_rfl) (by kernel_rfl) (by kernel_rfl) (by kernel_rfl) (by kernel_rfl) (by kernel_rfl) (fun ch_ a_ w_ q_ => (fun ch_ a_ w_ q_ => hnp ch_ a_ w_ (hp149 ch_ a_ w_ q_)) ch_ a_ w_ (hp242 ch_ a_ w_ q_)) (Sg.g1 (Sx.of [s225] (FM.le.refl _) HS261) (fun _ => St.only [] HS261 (FM.le.refl _))) (fun w_ hw_ => by obtain ⟨g_, hl_, hS_⟩ := hw_.st; exact run_index (sz := 1) rfl Try.underlying40 (by kernel_rfl) (by kernel_rfl : _ = Value.slice (some ⟨b37, 0, none⟩) deck224.length (n2).toNat) (by kernel_rfl : _ = Value.int .i64 x228) c267 c268 w_) ?_
              refine takeGQ 11 [13] rfl (by kernel_rfl) (by kernel_rfl) (by kernel_rfl) (by kernel_rfl) (by kernel_rfl) (by kernel_rfl) (fun ch_ a_ w_ q_ => (fun ch_ a_ w_ q_ => hnp ch_ a_ w_ (hp149 ch_ a_ w_ q_)) ch_ a_ w_ (hp242 ch_ a_ w_ q_)) (Sg.g1 (Sx.of [s225] (FM.le.refl _) HS261) (fun _ => St.only [] HS261 (FM.le.refl _))) (fun w_ hw_ => by obtain ⟨g_, hl_, hS_⟩ := hw_.seg (j := 13) (s := s225) (by simp) (by simp); exact run_load rfl Try.underlying3 rfl (by kernel_rfl : _ = Value.pointer (some ⟨b37, 0 + (x228 : Int).toNat * 1, none⟩)) ((hc271 hS_) 0 (by decide))) ?_
              refine takeGQ 12 [] rfl (by kernel_rfl) (by kernel_rfl) (by kernel_rfl) (by kernel_rfl) (by kernel_rfl) (by kernel_rfl) (fun ch_ a_ w_ q_ => (fun ch_ a_ w_ q_ => hnp ch_ a_ w_ (hp149 ch_ a_ w_ q_)) ch_ a_ w_ (hp242 ch_ a_ w_ q_)) (Sg.g1 (Sx.of [s225] (FM.le.refl _) HS261) (fun _ => St.only [] HS261 (FM.le.refl _))) (fun w_ hw_ => by obtain ⟨g_, hl_, hS_⟩ := hw_.st; exact run_index (sz := 1) rfl Try.underlying40 (by kernel_rfl) (by kernel_rfl : _ = Value.slice (some ⟨b37, 0, none⟩) deck224.length (n2).toNat) (by kernel_rfl : _ = Value.int .i64 x228) c267 c268 w_) ?_
              refine takeGE 13 (by kernel_rfl) rfl (by kernel_rfl) (does_put (e := (tInt .i64)) (E := 3) (vs := [.int .i64 (rd deck224 (w64 (x228 + vt254)))]) (u := (rd deck224 (w64 (x228 + vt254)))) (i := x228) rfl (by kernel_rfl) (HO226.mono (L251.trans L257)) HS261 rfl (by kernel_rfl : _ = Value.pointer (some ⟨b37, 0 + (x228 : Int).toNat * 1, none⟩)) (by kernel_rfl : _ = Value.int .i64 (rd deck224 (w64 (x228 + vt254)))) rfl rfl c267 c268 ?_)
              intro W272 s273 HS274 HO275
              refine ⟨(Sg.g1 (Sx.of [s273] (FM.le.refl _) HS274) (fun hl_ => Bool.noConfusion (show true = false from hl_))), ?_⟩
              refine gateRwS 8 (A := (some ⟨b37, 0, none⟩)) (m := deck224.length) (n := (deck224.set (x228).toNat (rd deck224 (w64 (x228 + vt254)))).length) (c := (n2).toNat) (by kernel_rfl) (List.length_set).symm ?_
              refine gateRwS 52 (A := (some ⟨b37, 0, none⟩)) (m := deck224.length) (n := (deck224.set (x228).toNat (rd deck224 (w64 (x228 + vt254)))).length) (c := (n2).toNat) (by kernel_rfl) (List.length_set).symm ?_
              refine gateRwS 54 (A := (some ⟨b37, 0, none⟩)) (m := deck224.length) (n := (deck224.set (x228).toNat (rd deck224 (w64 (x228 + vt254)))).length) (c := (n2).toNat) (by kernel_rfl) (List.length_set).symm ?_
              refine gateRwS 56 (A := (some ⟨b37, 0, none⟩)) (m := deck224.length) (n := (deck224.set (x228).toNat (rd deck224 (w64 (x228 + vt254)))).length) (c := (n2).toNat) (by kernel_rfl) (List.length_set).symm ?_
              refine gateRwS 60 (A := (some ⟨b37, 0, none⟩)) (m := deck224.length) (n := (deck224.set (x228).toNat (rd deck224 (w64 (x228 + vt254)))).length) (c := (n2).toNat) (by kernel_rfl) (List.length_set).symm ?_
              have hq_ := guard_some h; clear h; obtain ⟨c276, h⟩ := hq_
              have c276 : (w64 (x228 + vt254)) < ((deck224.set (x228).toNat (rd deck224 (w64 (x228 + vt254)))).length : Int) := c276
              obtain ⟨cs277, hr278, hc279⟩ := HO275.at' (i := w64 (x228 + vt254)) c262 c276
              obtain rfl := hr278
              refine takeGQ 14 [] rfl (by kernel_rfl) (by kernel_rfl) (by kernel_rfl) (by kernel_rfl) (by kernel_rfl) (by kernel_rfl) (fun ch_ a_ w_ q_ => (fun ch_ a_ w_ q_ => hnp ch_ a_ w_ (hp149 ch_ a_ w_ q_)) ch_ a_ w_ (hp242 ch_ a_ w_ q_)) (Sg.g1 (Sx.of [s273] (FM.le.refl _) HS274) (fun hl_ => Bool.noConfusion (show true = false from hl_))) (fun w_ hw_ => by obtain ⟨g_, hl_, hS_⟩ := hw_.st; exact run_index (sz := 1) rfl Try.underlying40 (by kernel_rfl) (by kernel_rfl : _ = Value.slice (some ⟨b37, 0, none⟩) (deck224.set (x228).toNat (rd deck224 (w64 (x228 + vt254)))).length (n2).toNat) (by kernel_rfl : _ = Value.int .i64 (w64 (x228 + vt254))) c262 c276 w_) ?_
              refine takeGE 15 (by kernel_rfl) rfl (by kernel_rfl) (does_put (e := (tInt .i64)) (E := 3) (vs := [.int .i64 (rd deck224 x228)]) (u := (rd deck224 x228)) (i := w64 (x228 + vt254)) rfl (by kernel_rfl) HO275 HS274 rfl (by kernel_rfl : _ = Value.pointer (some ⟨b37, 0 + (w64 (x228 + vt254) : Int).toNat * 1, none⟩)) (by kernel_rfl : _ = Value.int .i64 (rd deck224 x228)) rfl rfl c262 c276 ?_)
              intro W280 s281 HS282 HO283
              refine ⟨(Sg.g1 (Sx.of [s281] (FM.le.refl _) HS282) (fun hl_ => Bool.noConfusion (show true = false from hl_))), ?_⟩
              refine gateRwS 8 (A := (some ⟨b37, 0, none⟩)) (m := (deck224.set (x228).toNat (rd deck224 (w64 (x228 + vt254)))).length) (n := ((deck224.set (x228).toNat (rd deck224 (w64 (x228 + vt254)))).set (w64 (x228 + vt254)).toNat (rd deck224 x228)).length) (c := (n2).toNat) (by kernel_rfl) (List.length_set).symm ?_
              refine gateRwS 52 (A := (some ⟨b37, 0, none⟩)) (m := (deck224.set (x228).toNat (rd deck224 (w64 (x228 + vt254)))).length) (n := ((deck224.set (x228).toNat (rd deck224 (w64 (x228 + vt254)))).set (w64 (x228 + vt254)).toNat (rd deck224 x228)).length) (c := (n2).toNat) (by kernel_rfl) (List.length_set).symm ?_
              refine gateRwS 54 (A := (some ⟨b37, 0, none⟩)) (m := (deck224.set (x228).toNat (rd deck224 (w64 (x228 + vt254)))).length) (n := ((deck224.set (x228).toNat (rd deck224 (w64 (x228 + vt254)))).set (w64 (x228 + vt254)).toNat (rd deck224 x228)).length) (c := (n2).toNat) (by kernel_rfl) (List.length_set).symm ?_
              refine gateRwS 56 (A := (some ⟨b37, 0, none⟩)) (m := (deck224.set (x228).toNat (rd deck224 (w64 (x228 + vt254)))).length) (n := ((deck224.set (x228).toNat (rd deck224 (w64 (x228 + vt254)))).set (w64 (x228 + vt254)).toNat (rd deck224 x228)).length) (c := (n2).toNat) (by kernel_rfl) (List.length_set).symm ?_
              refine gateRwS 60 (A := (some ⟨b37, 0, none⟩)) (m := (deck224.set (x228).toNat (rd deck224 (w64 (x228 + vt254)))).length) (n := ((deck224.set (x228).toNat (rd deck224 (w64 (x228 + vt254)))).set (w64 (x228 + vt254)).toNat (rd deck224 x228)).length) (c := (n2).toNat) (by kernel_rfl) (List.length_set).symm ?_
              refine doneG (by kernel_rfl) ?_ _
              refine hn239 _ _ ?_
              refine hK236 _ _ ?_
              refine wp_region_lit ?_
              refine seqS2 (a' := ⟨#[.int .u64 seed1, .int .i64 n2, .int .i64 vk3, undef, undef, undef, .slice none 0 0, .int .i64 0, .slice (some ⟨b37, 0, none⟩) ((deck224.set (x228).toNat (rd deck224 (w64 (x228 + vt254)))).set (w64 (x228 + vt254)).toNat (rd deck224 x228)).length (n2).toNat, (j132 0), .int .i64 x228, .int .i64 (w64 (x228 + vt254)), .bool false, .int .i64 n2, .bool false, .bool false, .int .i64 n2, .bool false, .bool false, .bool false, .int .i64 vk3, .bool false, .bool false, .int .i64 vk3, .int .i64 n2, .bool false, .bool false, .int .i64 n2, (j132 1), (j132 2), .int .i64 ((List.replicate (n2).toNat (0 : Int)).length : Int), (j132 3), (j132 4), (j132 5), (j132 6), (j132 7), (j132 8), (j132 9), (j132 10), .int .i64 vk3, .int .i64 (w64 (x228 + 1)), .bool true, .int .i64 x228, .int .i64 x228, .int .u64 seed1, .int .i64 x228, .int .u64 vt248, .int .i64 n2, .int .i64 x228, .int .i64 (w64 (n2 - x228)), .int .i64 vt254, .int .i64 (w64 (x228 + vt254)), .slice (some ⟨b37, 0, none⟩) ((deck224.set (x228).toNat (rd deck224 (w64 (x228 + vt254)))).set (w64 (x228 + vt254)).toNat (rd deck224 x228)).length (n2).toNat, .int .i64 x228, .slice (some ⟨b37, 0, none⟩) ((deck224.set (x228).toNat (rd deck224 (w64 (x228 + vt254)))).set (w64 (x228 + vt254)).toNat (rd deck224 x228)).length (n2).toNat, .int .i64 (w64 (x228 + vt254)), .slice (some ⟨b37, 0, none⟩) ((deck224.set (x228).toNat (rd deck224 (w64 (x228 + vt254)))).set (w64 (x228 + vt254)).toNat (rd deck224 x228)).length (n2).toNat, .int .i64 (w64 (x228 + vt254)), .pointer (some ⟨b37, 0 + (w64 (x228 + vt254) : Int).toNat * 1, none⟩), .int .i64 (rd deck224 (w64 (x228 + vt254))), .slice (some ⟨b37, 0, none⟩) ((deck224.set (x228).toNat (rd deck224 (w64 (x228 + vt254)))).set (w64 (x228 + vt254)).toNat (rd deck224 x228)).length (n2).toNat, .int .i64 x228, .pointer (some ⟨b37, 0 + (x228 : Int).toNat * 1, none⟩), .int .i64 (rd deck224 x228), .pointer (some ⟨b37, 0 + (x228 : Int).toNat * 1, none⟩), .pointer (some ⟨b37, 0 + (w64 (x228 + vt254) : Int).toNat * 1, none⟩), .int .i64 (w64 (x228 + 1)), undef, undef, undef, undef], []⟩) (by kernel_rfl) ?_
              refine wpList_nil ?_
              refine hK217 n218 _ _ (Nat.lt_succ_self _) ?_
              exact ⟨f256, s281, ((deck224.set (x228).toNat (rd deck224 (w64 (x228 + vt254)))).set (w64 (x228 + vt254)).toNat (rd deck224 x228)), (w64 (x228 + 1)), (fun i_ => [Value.int .i64 x228, Value.int .i64 (w64 (x228 + vt254)), Value.bool true, Value.int .i64 x228, Value.int .i64 x228, Value.int .u64 seed1, Value.int .i64 x228, Value.int .u64 vt248, Value.int .i64 n2, Value.int .i64 x228, Value.int .i64 (w64 (n2 - x228)), Value.int .i64 vt254, Value.int .i64 (w64 (x228 + vt254)), Value.slice (some ⟨b37, 0, none⟩) ((deck224.set (x228).toNat (rd deck224 (w64 (x228 + vt254)))).set (w64 (x228 + vt254)).toNat (rd deck224 x228)).length (n2).toNat, Value.int .i64 x228, Value.slice (some ⟨b37, 0, none⟩) ((deck224.set (x228).toNat (rd deck224 (w64 (x228 + vt254)))).set (w64 (x228 + vt254)).toNat (rd deck224 x228)).length (n2).toNat, Value.int .i64 (w64 (x228 + vt254)), Value.slice (some ⟨b37, 0, none⟩) ((deck224.set (x228).toNat (rd deck224 (w64 (x228 + vt254)))).set (w64 (x228 + vt254)).toNat (rd deck224 x228)).length (n2).toNat, Value.int .i64 (w64 (x228 + vt254)), Value.pointer (some ⟨b37, 0 + (w64 (x228 + vt254) : Int).toNat * 1, none⟩), Value.int .i64 (rd deck224 (w64 (x228 + vt254))), Value.slice (some ⟨b37, 0, none⟩) ((deck224.set (x228).toNat (rd deck224 (w64 (x228 + vt254)))).set (w64 (x228 + vt254)).toNat (rd deck224 x228)).length (n2).toNat, Value.int .i64 x228, Value.pointer (some ⟨b37, 0 + (x228 : Int).toNat * 1, none⟩), Value.int .i64 (rd deck224 x228), Value.pointer (some ⟨b37, 0 + (x228 : Int).toNat * 1, none⟩), Value.pointer (some ⟨b37, 0 + (w64 (x228 + vt254) : Int).toNat * 1, none⟩), Value.int .i64 (w64 (x228 + 1))].getD i_ undef), (L220.trans (L251.trans L257)), HS282, HO283, (List.length_set.trans (List.length_set.trans HL227)), h, (by kernel_rfl)⟩
            · have c234 : ¬ (x228 < vk3) := c234
              refine wpRwI 41 (x := (decide (x228 < vk3))) (v := false) (by kernel_rfl) (decide_eq_false c234) ?_
              refine condF (by kernel_rfl) ?_
              refine wp_exit ?_
              refine hx145 _ _ ?_
              exact J294 f219 s225 deck224 (fun i_ => [(j223 0), (j223 1), Value.int .i64 x228, Value.bool false, (j223 3), (j223 4), (j223 5), (j223 6), (j223 7), (j223 8), (j223 9), (j223 10), (j223 11), (j223 12), (j223 13), (j223 14), (j223 15), (j223 16), (j223 17), (j223 18), (j223 19), (j223 20), (j223 21), (j223 22), (j223 23), (j223 24), (j223 25), (j223 26), (j223 27)].getD i_ undef) W221 _ L220 h HS222 HO226 HL227 (by kernel_rfl)
          clear h; have h := hv137; clear hv137
          refine loopK (fun n_ a_ w_ => ∃ (f92 : FM) (s98 : Seg) (deck97 : List Int) (x101 : Int) (j96 : Nat → Value), FM.le f f92 ∧ St t w_ f92 (s98 :: H) ∧ Own (tInt .i64) 3 f92 (some ⟨b37, 0, none⟩) (n2).toNat s98 deck97 ∧ deck97.length = (List.replicate (n2).toNat (0 : Int)).length ∧ quanta_Deck.l0 k n2 n_ deck97 x101 = some o88 ∧ a_ = ⟨#[.int .u64 seed1, .int .i64 n2, .int .i64 vk3, undef, undef, undef, .slice none 0 0, .int .i64 0, .slice (some ⟨b37, 0, none⟩) deck97.length (n2).toNat, (j96 0), undef, undef, .bool false, .int .i64 n2, .bool false, .bool false, .int .i64 n2, .bool false, .bool false, .bool false, .int .i64 vk3, .bool false, .bool false, .int .i64 vk3, .int .i64 n2, .bool false, .bool false, .int .i64 n2, .slice (some ⟨b37, 0, none⟩) (List.replicate (n2).toNat (0 : Int)).length (n2).toNat, .slice (some ⟨b37, 0, none⟩) (List.replicate (n2).toNat (0 : Int)).length (n2).toNat, .int .i64 ((List.replicate (n2).toNat (0 : Int)).length : Int), .int .i64 x101, (j96 1), (j96 2), (j96 3), (j96 4), (j96 5), (j96 6), (j96 7), undef, undef, undef, undef, undef, undef, undef, undef, undef, undef, undef, undef, undef, undef, undef, undef, undef, undef, undef, undef, undef, undef, undef, undef, undef, undef, undef, undef, undef, undef, undef, undef], []⟩) k ⟨f, s39, (List.replicate (n2).toNat (0 : Int)), 0, (fun i_ => [undef, undef, undef, undef, undef, undef, undef, undef].getD i_ undef), (FM.le.refl _), HS40, HO41, rfl, h, (by kernel_rfl)⟩ ?_
          clear h
          rintro n91 _ W94 ⟨f92, s98, deck97, x101, j96, L93, HS95, HO99, HL100, h, rfl⟩ K89 hK90
          obtain _ | n91 := n91
          · exact nomatch h
          simp only [quanta_Deck.l0] at h
          refine wp_seq_k (fun K102 hK103 => ?_)
          refine wp_region_lit ?_
          refine seqS1 (a' := ⟨#[.int .u64 seed1, .int .i64 n2, .int .i64 vk3, undef, undef, undef, .slice none 0 0, .int .i64 0, .slice (some ⟨b37, 0, none⟩) deck97.length (n2).toNat, (j96 0), undef, undef, .bool false, .int .i64 n2, .bool false, .bool false, .int .i64 n2, .bool false, .bool false, .bool false, .int .i64 vk3, .bool false, .bool false, .int .i64 vk3, .int .i64 n2, .bool false, .bool false, .int .i64 n2, .slice (some ⟨b37, 0, none⟩) (List.replicate (n2).toNat (0 : Int)).length (n2).toNat, .slice (some ⟨b37, 0, none⟩) (List.replicate (n2).toNat (0 : Int)).length (n2).toNat, .int .i64 ((List.replicate (n2).toNat (0 : Int)).length : Int), .int .i64 x101, .bool (decide (x101 < ((List.replicate (n2).toNat (0 : Int)).length : Int))), (j96 2), (j96 3), (j96 4), (j96 5), (j96 6), (j96 7), undef, undef, undef, undef, undef, undef, undef, undef, undef, undef, undef, undef, undef, undef, undef, undef, undef, undef, undef, undef, undef, undef, undef, undef, undef, undef, undef, undef, undef, undef, undef, undef], []⟩) (by kernel_rfl) ?_
          refine wpList_nil ?_
          refine hK103 _ _ ?_
          refine wp_seq_k (fun K104 hK105 => ?_)
          have hq_ := ite_some h; clear h; rcases hq_ with ⟨c107, h⟩ | ⟨c107, h⟩
          · have c107 : x101 < ((List.replicate (n2).toNat (0 : Int)).length : Int) := c107
            refine wpRwI 32 (x := (decide (x101 < ((List.replicate (n2).toNat (0 : Int)).length : Int)))) (v := true) (by kernel_rfl) (decide_eq_true c107) ?_
            refine condT (by kernel_rfl) ?_
            refine wp_skip ?_
            refine hK105 _ _ ?_
            refine wp_seq_k (fun K108 hK109 => ?_)
            refine blockK (fun B110 hx111 hn112 hr113 ho114 hp115 => ?_)
            refine wp_seq_k (fun K117 hK118 => ?_)
            refine wp_region_lit ?_
            refine seqS2 (a' := ⟨#[.int .u64 seed1, .int .i64 n2, .int .i64 vk3, undef, undef, undef, .slice none 0 0, .int .i64 0, .slice (some ⟨b37, 0, none⟩) deck97.length (n2).toNat, .int .i64 x101, undef, undef, .bool false, .int .i64 n2, .bool false, .bool false, .int .i64 n2, .bool false, .bool false, .bool false, .int .i64 vk3, .bool false, .bool false, .int .i64 vk3, .int .i64 n2, .bool false, .bool false, .int .i64 n2, .slice (some ⟨b37, 0, none⟩) (List.replicate (n2).toNat (0 : Int)).length (n2).toNat, .slice (some ⟨b37, 0, none⟩) (List.replicate (n2).toNat (0 : Int)).length (n2).toNat, .int .i64 ((List.replicate (n2).toNat (0 : Int)).length : Int), .int .i64 x101, .bool true, .int .i64 x101, (j96 3), (j96 4), (j96 5), (j96 6), (j96 7), undef, undef, undef, undef, undef, undef, undef, undef, undef, undef, undef, undef, undef, undef, undef, undef, undef, undef, undef, undef, undef, undef, undef, undef, undef, undef, undef, undef, undef, undef, undef, undef], []⟩) (by kernel_rfl) ?_
            refine wpList_nil ?_
            refine hK118 _ _ ?_
            refine wp_region_lit ?_
            have hq_ := guard_some h; clear h; obtain ⟨c119, h⟩ := hq_
            have c119 : 0 ≤ x101 := c119
            have hq_ := guard_some h; clear h; obtain ⟨c120, h⟩ := hq_
            have c120 : x101 < (deck97.length : Int) := c120
            obtain ⟨cs121, hr122, hc123⟩ := HO99.at' (i := x101) c119 c120
            obtain rfl := hr122
            refine seqL3 (by kernel_rfl) ?_
            refine seqK rfl (does_run (run_index (sz := 1) rfl Try.underlying40 (by kernel_rfl) (by kernel_rfl : _ = Value.slice (some ⟨b37, 0, none⟩) deck97.length (n2).toNat) (by kernel_rfl : _ = Value.int .i64 x101) c119 c120 W94) ?_)
            refine seqK rfl (does_put (e := (tInt .i64)) (E := 3) (vs := [.int .i64 x101]) (u := x101) (i := x101) rfl (by kernel_rfl) HO99 HS95 rfl (by kernel_rfl : _ = Value.pointer (some ⟨b37, 0 + (x101 : Int).toNat * 1, none⟩)) (by kernel_rfl : _ = Value.int .i64 x101) rfl rfl c119 c120 ?_)
            intro W124 s125 HS126 HO127
            refine seqRwS 8 (A := (some ⟨b37, 0, none⟩)) (m := deck97.length) (n := (deck97.set (x101).toNat x101).length) (c := (n2).toNat) (by kernel_rfl) (List.length_set).symm ?_
            refine seqRwS 34 (A := (some ⟨b37, 0, none⟩)) (m := deck97.length) (n := (deck97.set (x101).toNat x101).length) (c := (n2).toNat) (by kernel_rfl) (List.length_set).symm ?_
            refine wpList_nil ?_
            refine hn112 _ _ ?_
            refine hK109 _ _ ?_
            refine wp_region_lit ?_
            refine seqS2 (a' := ⟨#[.int .u64 seed1, .int .i64 n2, .int .i64 vk3, undef, undef, undef, .slice none 0 0, .int .i64 0, .slice (some ⟨b37, 0, none⟩) (deck97.set (x101).toNat x101).length (n2).toNat, .int .i64 x101, undef, undef, .bool false, .int .i64 n2, .bool false, .bool false, .int .i64 n2, .bool false, .bool false, .bool false, .int .i64 vk3, .bool false, .bool false, .int .i64 vk3, .int .i64 n2, .bool false, .bool false, .int .i64 n2, .slice (some ⟨b37, 0, none⟩) (List.replicate (n2).toNat (0 : Int)).length (n2).toNat, .slice (some ⟨b37, 0, none⟩) (List.replicate (n2).toNat (0 : Int)).length (n2).toNat, .int .i64 ((List.replicate (n2).toNat (0 : Int)).length : Int), .int .i64 (w64 (x101 + 1)), .bool true, .int .i64 x101, .slice (some ⟨b37, 0, none⟩) (deck97.set (x101).toNat x101).length (n2).toNat, .int .i64 x101, .int .i64 x101, .pointer (some ⟨b37, 0 + (x101 : Int).toNat * 1, none⟩), .int .i64 (w64 (x101 + 1)), undef, undef, undef, undef, undef, undef, undef, undef, undef, undef, undef, undef, undef, undef, undef, undef, undef, undef, undef, undef, undef, undef, undef, undef, undef, undef, undef, undef, undef, undef, undef, undef], []⟩) (by kernel_rfl) ?_
            refine wpList_nil ?_
            refine hK90 n91 _ _ (Nat.lt_succ_self _) ?_
            exact ⟨f92, s125, (deck97.set (x101).toNat x101), (w64 (x101 + 1)), (fun i_ => [Value.int .i64 x101, Value.bool true, Value.int .i64 x101, Value.slice (some ⟨b37, 0, none⟩) (deck97.set (x101).toNat x101).length (n2).toNat, Value.int .i64 x101, Value.int .i64 x101, Value.pointer (some ⟨b37, 0 + (x101 : Int).toNat * 1, none⟩), Value.int .i64 (w64 (x101 + 1))].getD i_ undef), L93, HS126, HO127, (List.length_set.trans HL100), h, (by kernel_rfl)⟩
          · have c107 : ¬ (x101 < ((List.replicate (n2).toNat (0 : Int)).length : Int)) := c107
            refine wpRwI 32 (x := (decide (x101 < ((List.replicate (n2).toNat (0 : Int)).length : Int)))) (v := false) (by kernel_rfl) (decide_eq_false c107) ?_
            refine condF (by kernel_rfl) ?_
            refine wp_exit ?_
            refine hx48 _ _ ?_
            exact J138 f92 s98 deck97 (fun i_ => [(j96 0), Value.slice (some ⟨b37, 0, none⟩) (List.replicate (n2).toNat (0 : Int)).length (n2).toNat, Value.slice (some ⟨b37, 0, none⟩) (List.replicate (n2).toNat (0 : Int)).length (n2).toNat, Value.int .i64 x101, Value.bool false, (j96 2), (j96 3), (j96 4), (j96 5), (j96 6), (j96 7)].getD i_ undef) W94 _ L93 h HS95 HO99 HL100 (by kernel_rfl)

set_option maxRecDepth 100000 in
set_option maxHeartbeats 4000000 in
theorem quanta_valid.calls (k : Nat)  (m1 : Int) {t w : World} {f : FM} {H : List Seg} (HS : St t w f (H)) (r1 : Bool) (h : quanta_valid k m1 = some r1) :
    Calls Try.prog 35 #[.int .i64 m1] w (fun e w' => ∃ (g : FM), e = .returned (Value.bool r1) ∧ FM.le f g ∧ St t w' g (H)) := by
  unfold quanta_valid at h
  refine enter Try.func35 rfl (tm := #[.int .i64 m1, undef, undef, undef, undef, undef, undef, undef, undef]) (by kernel_rfl) ?_
  intro B hret hnor hnp
  refine wp_seq_k (fun K2 hK3 => ?_)
  refine wp_region_lit ?_
  refine seqS1 (a' := ⟨#[.int .i64 m1, undef, .bool false, undef, undef, undef, undef, undef, undef], []⟩) (by kernel_rfl) ?_
  refine wpList_nil ?_
  refine hK3 _ _ ?_
  refine wp_seq_k (fun K4 hK5 => ?_)
  refine wp_region_lit ?_
  refine seqS3 (a' := ⟨#[.int .i64 m1, undef, .bool false, .int .i64 m1, .bool (decide (m1 ≥ 0)), .bool (decide (m1 ≥ 0)), undef, undef, undef], []⟩) (by kernel_rfl) ?_
  have hq_ := ite_some h; clear h; rcases hq_ with ⟨c6, h⟩ | ⟨c6, h⟩
  · have c6 : m1 ≥ 0 := c6
    refine seqRwI 4 (x := (decide (m1 ≥ 0))) (v := true) (by kernel_rfl) (decide_eq_true c6) ?_
    refine seqRwI 5 (x := (decide (m1 ≥ 0))) (v := true) (by kernel_rfl) (decide_eq_true c6) ?_
    refine seqS4 (a' := ⟨#[.int .i64 m1, undef, .bool (decide (m1 ≤ 1152921504606846976)), .int .i64 m1, .bool true, .bool true, .int .i64 m1, .bool (decide (m1 ≤ 1152921504606846976)), .bool (decide (m1 ≤ 1152921504606846976))], []⟩) (by kernel_rfl) ?_
    refine wpList_nil ?_
    refine hK5 _ _ ?_
    refine wp_ret ?_
    refine hret _ _ ?_
    refine ends_still (v := Value.bool (decide (m1 ≤ 1152921504606846976))) (by kernel_rfl) (by kernel_rfl) ?_
    injection h with h
    subst h
    exact ⟨f, rfl, FM.le.refl _, HS⟩
  · have c6 : ¬ (m1 ≥ 0) := c6
    refine seqRwI 4 (x := (decide (m1 ≥ 0))) (v := false) (by kernel_rfl) (decide_eq_false c6) ?_
    refine seqRwI 5 (x := (decide (m1 ≥ 0))) (v := false) (by kernel_rfl) (decide_eq_false c6) ?_
    refine seqS4 (a' := ⟨#[.int .i64 m1, undef, .bool false, .int .i64 m1, .bool false, .bool false, undef, undef, .bool false], []⟩) (by kernel_rfl) ?_
    refine wpList_nil ?_
    refine hK5 _ _ ?_
    refine wp_ret ?_
    refine hret _ _ ?_
    refine ends_still (v := Value.bool false) (by kernel_rfl) (by kernel_rfl) ?_
    injection h with h
    subst h
    exact ⟨f, rfl, FM.le.refl _, HS⟩

set_option maxRecDepth 100000 in
set_option maxHeartbeats 4000000 in
theorem quanta_whole.calls (k : Nat)  (m1 : Int) {t w : World} {f : FM} {H : List Seg} (HS : St t w f (H)) (r1 : Int) (h : quanta_whole k m1 = some r1) :
    Calls Try.prog 36 #[.int .i64 m1] w (fun e w' => ∃ (g : FM), e = .returned (Value.int .i64 r1) ∧ FM.le f g ∧ St t w' g (H)) := by
  unfold quanta_whole at h
  refine enter Try.func36 rfl (tm := #[.int .i64 m1, undef, undef, undef, undef]) (by kernel_rfl) ?_
  intro B hret hnor hnp
  refine wp_seq_k (fun K2 hK3 => ?_)
  refine wp_region_lit ?_
  refine seqS1 (a' := ⟨#[.int .i64 m1, undef, .int .i64 0, undef, undef], []⟩) (by kernel_rfl) ?_
  refine wpList_nil ?_
  refine hK3 _ _ ?_
  refine wp_seq_k (fun K4 hK5 => ?_)
  refine wp_region_lit ?_
  refine seqS3 (a' := ⟨#[.int .i64 m1, undef, .int .i64 (shr m1 24), .int .i64 m1, .int .i64 (shr m1 24)], []⟩) (by kernel_rfl) ?_
  refine wpList_nil ?_
  refine hK5 _ _ ?_
  refine wp_ret ?_
  refine hret _ _ ?_
  refine ends_still (v := Value.int .i64 (shr m1 24)) (by kernel_rfl) (by kernel_rfl) ?_
  injection h with h
  subst h
  exact ⟨f, rfl, FM.le.refl _, HS⟩

set_option maxRecDepth 100000 in
set_option maxHeartbeats 4000000 in
theorem num_SqrtMul.calls (k : Nat)  (a1 : Int) (b2 : Int) {t w : World} {f : FM} {H : List Seg} (HS : St t w f (H)) (r1 : Int) (h : num_SqrtMul k a1 b2 = some r1) :
    Calls Try.prog 77 #[.int .i64 a1, .int .i64 b2] w (fun e w' => ∃ (g : FM), e = .returned (Value.int .i64 r1) ∧ FM.le f g ∧ St t w' g (H)) := by
  unfold num_SqrtMul at h
  refine enter Try.func77 rfl (tm := #[.int .i64 a1, .int .i64 b2, undef, undef, undef, undef, undef, undef, undef, undef, undef, undef, undef, undef, undef, undef, undef, undef, undef, undef, undef, undef, undef, undef, undef, undef, undef, undef, undef, undef, undef, undef, undef, undef, undef, undef, undef, undef, undef, undef, undef, undef, undef, undef, undef, undef, undef, undef, undef, undef, undef, undef, undef, undef, undef, undef, undef]) (by kernel_rfl) ?_
  intro B hret hnor hnp
  refine wp_seq_k (fun K3 hK4 => ?_)
  refine wp_region_lit ?_
  refine seqS1 (a' := ⟨#[.int .i64 a1, .int .i64 b2, undef, undef, .int .i64 0, undef, undef, undef, undef, undef, undef, undef, undef, undef, undef, undef, undef, undef, undef, undef, undef, undef, undef, undef, undef, undef, undef, undef, undef, undef, undef, undef, undef, undef, undef, undef, undef, undef, undef, undef, undef, undef, undef, undef, undef, undef, undef, undef, undef, undef, undef, undef, undef, undef, undef, undef, undef], []⟩) (by kernel_rfl) ?_
  refine wpList_nil ?_
  refine hK4 _ _ ?_
  refine wp_seq_k (fun K5 hK6 => ?_)
  refine wp_seq_k (fun K7 hK8 => ?_)
  refine wp_region_lit ?_
  refine seqS3 (a' := ⟨#[.int .i64 a1, .int .i64 b2, undef, undef, .int .i64 0, undef, undef, undef, undef, undef, undef, .int .i64 a1, .bool (decide (a1 < 0)), .bool (decide (a1 < 0)), undef, undef, undef, undef, undef, undef, undef, undef, undef, undef, undef, undef, undef, undef, undef, undef, undef, undef, undef, undef, undef, undef, undef, undef, undef, undef, undef, undef, undef, undef, undef, undef, undef, undef, undef, undef, undef, undef, undef, undef, undef, undef, undef], []⟩) (by kernel_rfl) ?_
  have hq_ := ite_some h; clear h; rcases hq_ with ⟨c9, h⟩ | ⟨c9, h⟩
  · have c9 : a1 < 0 := c9
    refine seqRwI 12 (x := (decide (a1 < 0))) (v := true) (by kernel_rfl) (decide_eq_true c9) ?_
    refine seqRwI 13 (x := (decide (a1 < 0))) (v := true) (by kernel_rfl) (decide_eq_true c9) ?_
    refine seqS3 (a' := ⟨#[.int .i64 a1, .int .i64 b2, undef, undef, .int .i64 0, undef, undef, undef, undef, undef, undef, .int .i64 a1, .bool true, .bool true, undef, undef, .bool true, undef, undef, undef, undef, undef, undef, undef, undef, undef, undef, undef, undef, undef, undef, undef, undef, undef, undef, undef, undef, undef, undef, undef, undef, undef, undef, undef, undef, undef, undef, undef, undef, undef, undef, undef, undef, undef, undef, undef, undef], []⟩) (by kernel_rfl) ?_
    refine wpList_nil ?_
    refine hK8 _ _ ?_
    refine condT (by kernel_rfl) ?_
    refine wp_seq_k (fun K10 hK11 => ?_)
    refine wp_region_lit ?_
    refine seqS1 (a' := ⟨#[.int .i64 a1, .int .i64 b2, undef, undef, .int .i64 0, undef, undef, undef, undef, undef, undef, .int .i64 a1, .bool true, .bool true, undef, undef, .bool true, undef, undef, undef, undef, undef, undef, undef, undef, undef, undef, undef, undef, undef, undef, undef, undef, undef, undef, undef, undef, undef, undef, undef, undef, undef, undef, undef, undef, undef, undef, undef, undef, undef, undef, undef, undef, undef, undef, undef, undef], []⟩) (by kernel_rfl) ?_
    refine wpList_nil ?_
    refine hK11 _ _ ?_
    refine wp_ret ?_
    refine hret _ _ ?_
    refine ends_still (v := Value.int .i64 0) (by kernel_rfl) (by kernel_rfl) ?_
    injection h with h
    subst h
    exact ⟨f, rfl, FM.le.refl _, HS⟩
  · have c9 : ¬ (a1 < 0) := c9
    refine seqRwI 12 (x := (decide (a1 < 0))) (v := false) (by kernel_rfl) (decide_eq_false c9) ?_
    refine seqRwI 13 (x := (decide (a1 < 0))) (v := false) (by kernel_rfl) (decide_eq_false c9) ?_
    refine seqS3 (a' := ⟨#[.int .i64 a1, .int .i64 b2, undef, undef, .int .i64 0, undef, undef, undef, undef, undef, undef, .int .i64 a1, .bool false, .bool false, .int .i64 b2, .bool (decide (b2 < 0)), .bool (decide (b2 < 0)), undef, undef, undef, undef, undef, undef, undef, undef, undef, undef, undef, undef, undef, undef, undef, undef, undef, undef, undef, undef, undef, undef, undef, undef, undef, undef, undef, undef, undef, undef, undef, undef, undef, undef, undef, undef, undef, undef, undef, undef], []⟩) (by kernel_rfl) ?_
    refine wpList_nil ?_
    refine hK8 _ _ ?_
    have hq_ := ite_some h; clear h; rcases hq_ with ⟨c13, h⟩ | ⟨c13, h⟩
    · have c13 : b2 < 0 := c13
      refine wpRwI 15 (x := (decide (b2 < 0))) (v := true) (by kernel_rfl) (decide_eq_true c13) ?_
      refine wpRwI 16 (x := (decide (b2 < 0))) (v := true) (by kernel_rfl) (decide_eq_true c13) ?_
      refine condT (by kernel_rfl) ?_
      refine wp_seq_k (fun K14 hK15 => ?_)
      refine wp_region_lit ?_
      refine seqS1 (a' := ⟨#[.int .i64 a1, .int .i64 b2, undef, undef, .int .i64 0, undef, undef, undef, undef, undef, undef, .int .i64 a1, .bool false, .bool false, .int .i64 b2, .bool true, .bool true, undef, undef, undef, undef, undef, undef, undef, undef, undef, undef, undef, undef, undef, undef, undef, undef, undef, undef, undef, undef, undef, undef, undef, undef, undef, undef, undef, undef, undef, undef, undef, undef, undef, undef, undef, undef, undef, undef, undef, undef], []⟩) (by kernel_rfl) ?_
      refine wpList_nil ?_
      refine hK15 _ _ ?_
      refine wp_ret ?_
      refine hret _ _ ?_
      refine ends_still (v := Value.int .i64 0) (by kernel_rfl) (by kernel_rfl) ?_
      injection h with h
      subst h
      exact ⟨f, rfl, FM.le.refl _, HS⟩
    · have c13 : ¬ (b2 < 0) := c13
      refine wpRwI 15 (x := (decide (b2 < 0))) (v := false) (by kernel_rfl) (decide_eq_false c13) ?_
      refine wpRwI 16 (x := (decide (b2 < 0))) (v := false) (by kernel_rfl) (decide_eq_false c13) ?_
      refine condF (by kernel_rfl) ?_
      refine wp_skip ?_
      refine hK6 _ _ ?_
      refine wp_seq_k (fun K16 hK17 => ?_)
      refine wp_region_lit ?_
      have hq_ := bind_some h; clear h; obtain ⟨⟨vt18, vt19⟩, hc20, h⟩ := hq_
      refine seqL4 (by kernel_rfl) ?_
      refine seqK rfl (does_call (f := 58) (args := #[.int .u64 (u64 (a1)), .int .u64 (u64 (b2))]) (by kernel_rfl) (bits_Mul64.calls k (u64 (a1)) (u64 (b2)) HS vt18 vt19 hc20) ?_)
      rintro _ W23 ⟨f21, rfl, L22, HS24⟩
      refine ⟨_, rfl, ?_⟩
      refine seqS5 (a' := ⟨#[.int .i64 a1, .int .i64 b2, undef, undef, .int .i64 0, .int .u64 vt18, .int .u64 vt19, undef, undef, undef, undef, .int .i64 a1, .bool false, .bool false, .int .i64 b2, .bool false, .bool false, .tuple #[.int .u64 vt18, .int .u64 vt19], .int .i64 a1, .int .u64 (u64 (a1)), .int .i64 b2, .int .u64 (u64 (b2)), .tuple #[.int .u64 vt18, .int .u64 vt19], .int .u64 vt18, .int .u64 vt19, undef, undef, undef, undef, undef, undef, undef, undef, undef, undef, undef, undef, undef, undef, undef, undef, undef, undef, undef, undef, undef, undef, undef, undef, undef, undef, undef, undef, undef, undef, undef, undef], []⟩) (by kernel_rfl) ?_
      refine wpList_nil ?_
      refine hK17 _ _ ?_
      refine wp_seq_k (fun K25 hK26 => ?_)
      refine wp_region_lit ?_
      refine seqS1 (a' := ⟨#[.int .i64 a1, .int .i64 b2, undef, undef, .int .i64 0, .int .u64 vt18, .int .u64 vt19, .int .u64 0, undef, undef, undef, .int .i64 a1, .bool false, .bool false, .int .i64 b2, .bool false, .bool false, .tuple #[.int .u64 vt18, .int .u64 vt19], .int .i64 a1, .int .u64 (u64 (a1)), .int .i64 b2, .int .u64 (u64 (b2)), .tuple #[.int .u64 vt18, .int .u64 vt19], .int .u64 vt18, .int .u64 vt19, undef, undef, undef, undef, undef, undef, undef, undef, undef, undef, undef, undef, undef, undef, undef, undef, undef, undef, undef, undef, undef, undef, undef, undef, undef, undef, undef, undef, undef, undef, undef, undef], []⟩) (by kernel_rfl) ?_
      refine wpList_nil ?_
      refine hK26 _ _ ?_
      refine wp_seq_k (fun K27 hK28 => ?_)
      refine wp_seq_k (fun K29 hK30 => ?_)
      refine wp_region_lit ?_
      refine seqS1 (a' := ⟨#[.int .i64 a1, .int .i64 b2, undef, undef, .int .i64 0, .int .u64 vt18, .int .u64 vt19, .int .u64 0, .int .u64 4611686018427387904, undef, undef, .int .i64 a1, .bool false, .bool false, .int .i64 b2, .bool false, .bool false, .tuple #[.int .u64 vt18, .int .u64 vt19], .int .i64 a1, .int .u64 (u64 (a1)), .int .i64 b2, .int .u64 (u64 (b2)), .tuple #[.int .u64 vt18, .int .u64 vt19], .int .u64 vt18, .int .u64 vt19, undef, undef, undef, undef, undef, undef, undef, undef, undef, undef, undef, undef, undef, undef, undef, undef, undef, undef, undef, undef, undef, undef, undef, undef, undef, undef, undef, undef, undef, undef, undef, undef], []⟩) (by kernel_rfl) ?_
      refine wpList_nil ?_
      refine hK30 _ _ ?_
      refine blockK (fun B31 hx32 hn33 hr34 ho35 hp36 => ?_)
      have hq_ := bind_some h; clear h; obtain ⟨o37, hv84, h⟩ := hq_
      have J85 : ∀ (f78 : FM) (r83 : Int) (j82 : Nat → Value) (W80 : World) (a_ : Act), FM.le f21 f78 → some (r83) = some o37 → St t W80 f78 (H) → a_ = ⟨#[.int .i64 a1, .int .i64 b2, undef, undef, .int .i64 0, .int .u64 vt18, .int .u64 vt19, .int .u64 r83, (j82 0), (j82 1), (j82 2), .int .i64 a1, .bool false, .bool false, .int .i64 b2, .bool false, .bool false, .tuple #[.int .u64 vt18, .int .u64 vt19], .int .i64 a1, .int .u64 (u64 (a1)), .int .i64 b2, .int .u64 (u64 (b2)), .tuple #[.int .u64 vt18, .int .u64 vt19], .int .u64 vt18, .int .u64 vt19, (j82 3), (j82 4), (j82 5), (j82 6), (j82 7), (j82 8), (j82 9), (j82 10), (j82 11), (j82 12), (j82 13), (j82 14), (j82 15), (j82 16), (j82 17), (j82 18), (j82 19), (j82 20), (j82 21), (j82 22), (j82 23), (j82 24), (j82 25), (j82 26), (j82 27), (j82 28), (j82 29), (j82 30), (j82 31), (j82 32), undef, undef], []⟩ → K27 a_ W80 := by
        intro f78 r83 j82 W80 a_ L79 hj86 HS81  hfr_; subst hfr_
        injection hj86 with hj86; subst hj86; try dsimp only at h
        refine hK28 _ _ ?_
        refine wp_seq_k (fun K87 hK88 => ?_)
        refine wp_region_lit ?_
        refine seqS3 (a' := ⟨#[.int .i64 a1, .int .i64 b2, undef, undef, .int .i64 (w64 (r83)), .int .u64 vt18, .int .u64 vt19, .int .u64 r83, (j82 0), (j82 1), (j82 2), .int .i64 a1, .bool false, .bool false, .int .i64 b2, .bool false, .bool false, .tuple #[.int .u64 vt18, .int .u64 vt19], .int .i64 a1, .int .u64 (u64 (a1)), .int .i64 b2, .int .u64 (u64 (b2)), .tuple #[.int .u64 vt18, .int .u64 vt19], .int .u64 vt18, .int .u64 vt19, (j82 3), (j82 4), (j82 5), (j82 6), (j82 7), (j82 8), (j82 9), (j82 10), (j82 11), (j82 12), (j82 13), (j82 14), (j82 15), (j82 16), (j82 17), (j82 18), (j82 19), (j82 20), (j82 21), (j82 22), (j82 23), (j82 24), (j82 25), (j82 26), (j82 27), (j82 28), (j82 29), (j82 30), (j82 31), (j82 32), .int .u64 r83, .int .i64 (w64 (r83))], []⟩) (by kernel_rfl) ?_
        refine wpList_nil ?_
        refine hK88 _ _ ?_
        refine wp_ret ?_
        refine hret _ _ ?_
        refine ends_still (v := Value.int .i64 (w64 (r83))) (by kernel_rfl) (by kernel_rfl) ?_
        injection h with h
        subst h
        exact ⟨f78, rfl, (L22.trans L79), HS81⟩
      clear h; have h := hv84; clear hv84
      refine loopK (fun n_ a_ w_ => ∃ (f41 : FM) (r46 : Int) (bit47 : Int) (j45 : Nat → Value), FM.le f21 f41 ∧ St t w_ f41 (H) ∧ num_SqrtMul.l0 k vt18 vt19 n_ r46 bit47 = some o37 ∧ a_ = ⟨#[.int .i64 a1, .int .i64 b2, undef, undef, .int .i64 0, .int .u64 vt18, .int .u64 vt19, .int .u64 r46, .int .u64 bit47, (j45 0), (j45 1), .int .i64 a1, .bool false, .bool false, .int .i64 b2, .bool false, .bool false, .tuple #[.int .u64 vt18, .int .u64 vt19], .int .i64 a1, .int .u64 (u64 (a1)), .int .i64 b2, .int .u64 (u64 (b2)), .tuple #[.int .u64 vt18, .int .u64 vt19], .int .u64 vt18, .int .u64 vt19, (j45 2), (j45 3), (j45 4), (j45 5), (j45 6), (j45 7), (j45 8), (j45 9), (j45 10), (j45 11), (j45 12), (j45 13), (j45 14), (j45 15), (j45 16), (j45 17), (j45 18), (j45 19), (j45 20), (j45 21), (j45 22), (j45 23), (j45 24), (j45 25), (j45 26), (j45 27), (j45 28), (j45 29), (j45 30), (j45 31), undef, undef], []⟩) k ⟨f21, 0, 4611686018427387904, (fun i_ => [undef, undef, undef, undef, undef, undef, undef, undef, undef, undef, undef, undef, undef, undef, undef, undef, undef, undef, undef, undef, undef, undef, undef, undef, undef, undef, undef, undef, undef, undef, undef, undef].getD i_ undef), (FM.le.refl _), HS24, h, (by kernel_rfl)⟩ ?_
      clear h
      rintro n40 _ W43 ⟨f41, r46, bit47, j45, L42, HS44, h, rfl⟩ K38 hK39
      obtain _ | n40 := n40
      · exact nomatch h
      simp only [num_SqrtMul.l0] at h
      refine wp_seq_k (fun K48 hK49 => ?_)
      refine wp_seq_k (fun K50 hK51 => ?_)
      refine wp_region_lit ?_
      refine seqS2 (a' := ⟨#[.int .i64 a1, .int .i64 b2, undef, undef, .int .i64 0, .int .u64 vt18, .int .u64 vt19, .int .u64 r46, .int .u64 bit47, (j45 0), (j45 1), .int .i64 a1, .bool false, .bool false, .int .i64 b2, .bool false, .bool false, .tuple #[.int .u64 vt18, .int .u64 vt19], .int .i64 a1, .int .u64 (u64 (a1)), .int .i64 b2, .int .u64 (u64 (b2)), .tuple #[.int .u64 vt18, .int .u64 vt19], .int .u64 vt18, .int .u64 vt19, .int .u64 bit47, .bool (decide (bit47 > 0)), (j45 4), (j45 5), (j45 6), (j45 7), (j45 8), (j45 9), (j45 10), (j45 11), (j45 12), (j45 13), (j45 14), (j45 15), (j45 16), (j45 17), (j45 18), (j45 19), (j45 20), (j45 21), (j45 22), (j45 23), (j45 24), (j45 25), (j45 26), (j45 27), (j45 28), (j45 29), (j45 30), (j45 31), undef, undef], []⟩) (by kernel_rfl) ?_
      refine wpList_nil ?_
      refine hK51 _ _ ?_
      have hq_ := ite_some h; clear h; rcases hq_ with ⟨c53, h⟩ | ⟨c53, h⟩
      · have c53 : bit47 > 0 := c53
        refine wpRwI 26 (x := (decide (bit47 > 0))) (v := true) (by kernel_rfl) (decide_eq_true c53) ?_
        refine condT (by kernel_rfl) ?_
        refine wp_skip ?_
        refine hK49 _ _ ?_
        refine wp_seq_k (fun K54 hK55 => ?_)
        refine blockK (fun B56 hx57 hn58 hr59 ho60 hp61 => ?_)
        refine wp_seq_k (fun K63 hK64 => ?_)
        refine wp_region_lit ?_
        have hq_ := bind_some h; clear h; obtain ⟨⟨vt65, vt66⟩, hc67, h⟩ := hq_
        refine seqL6 (by kernel_rfl) ?_
        refine seqK rfl (does_call (f := 58) (args := #[.int .u64 (Go.bits .or .u64 r46 bit47), .int .u64 (Go.bits .or .u64 r46 bit47)]) (by kernel_rfl) (bits_Mul64.calls k (Go.bits .or .u64 r46 bit47) (Go.bits .or .u64 r46 bit47) HS44 vt65 vt66 hc67) ?_)
        rintro _ W70 ⟨f68, rfl, L69, HS71⟩
        refine ⟨_, rfl, ?_⟩
        refine seqS5 (a' := ⟨#[.int .i64 a1, .int .i64 b2, undef, undef, .int .i64 0, .int .u64 vt18, .int .u64 vt19, .int .u64 r46, .int .u64 bit47, .int .u64 vt65, .int .u64 vt66, .int .i64 a1, .bool false, .bool false, .int .i64 b2, .bool false, .bool false, .tuple #[.int .u64 vt18, .int .u64 vt19], .int .i64 a1, .int .u64 (u64 (a1)), .int .i64 b2, .int .u64 (u64 (b2)), .tuple #[.int .u64 vt18, .int .u64 vt19], .int .u64 vt18, .int .u64 vt19, .int .u64 bit47, .bool true, (j45 4), (j45 5), .tuple #[.int .u64 vt65, .int .u64 vt66], .int .u64 r46, .int .u64 bit47, .int .u64 (Go.bits .or .u64 r46 bit47), .int .u64 r46, .int .u64 bit47, .int .u64 (Go.bits .or .u64 r46 bit47), .tuple #[.int .u64 vt65, .int .u64 vt66], .int .u64 vt65, .int .u64 vt66, (j45 16), (j45 17), (j45 18), (j45 19), (j45 20), (j45 21), (j45 22), (j45 23), (j45 24), (j45 25), (j45 26), (j45 27), (j45 28), (j45 29), (j45 30), (j45 31), undef, undef], []⟩) (by kernel_rfl) ?_
        refine wpList_nil ?_
        refine hK64 _ _ ?_
        refine wp_seq_k (fun K72 hK73 => ?_)
        refine wp_region_lit ?_
        refine seqS4 (a' := ⟨#[.int .i64 a1, .int .i64 b2, undef, undef, .int .i64 0, .int .u64 vt18, .int .u64 vt19, .int .u64 r46, .int .u64 bit47, .int .u64 vt65, .int .u64 vt66, .int .i64 a1, .bool false, .bool false, .int .i64 b2, .bool false, .bool false, .tuple #[.int .u64 vt18, .int .u64 vt19], .int .i64 a1, .int .u64 (u64 (a1)), .int .i64 b2, .int .u64 (u64 (b2)), .tuple #[.int .u64 vt18, .int .u64 vt19], .int .u64 vt18, .int .u64 vt19, .int .u64 bit47, .bool true, (j45 4), (j45 5), .tuple #[.int .u64 vt65, .int .u64 vt66], .int .u64 r46, .int .u64 bit47, .int .u64 (Go.bits .or .u64 r46 bit47), .int .u64 r46, .int .u64 bit47, .int .u64 (Go.bits .or .u64 r46 bit47), .tuple #[.int .u64 vt65, .int .u64 vt66], .int .u64 vt65, .int .u64 vt66, .int .u64 vt65, .int .u64 vt18, .bool (decide (vt65 < vt18)), .bool (decide (vt65 < vt18)), (j45 20), (j45 21), (j45 22), (j45 23), (j45 24), (j45 25), (j45 26), (j45 27), (j45 28), (j45 29), (j45 30), (j45 31), undef, undef], []⟩) (by kernel_rfl) ?_
        have hq_ := ite_some h; clear h; rcases hq_ with ⟨c74, h⟩ | ⟨c74, h⟩
        · have c74 : vt65 < vt18 := c74
          refine seqRwI 41 (x := (decide (vt65 < vt18))) (v := true) (by kernel_rfl) (decide_eq_true c74) ?_
          refine seqRwI 42 (x := (decide (vt65 < vt18))) (v := true) (by kernel_rfl) (decide_eq_true c74) ?_
          refine seqS9 (a' := ⟨#[.int .i64 a1, .int .i64 b2, undef, undef, .int .i64 0, .int .u64 vt18, .int .u64 vt19, .int .u64 r46, .int .u64 bit47, .int .u64 vt65, .int .u64 vt66, .int .i64 a1, .bool false, .bool false, .int .i64 b2, .bool false, .bool false, .tuple #[.int .u64 vt18, .int .u64 vt19], .int .i64 a1, .int .u64 (u64 (a1)), .int .i64 b2, .int .u64 (u64 (b2)), .tuple #[.int .u64 vt18, .int .u64 vt19], .int .u64 vt18, .int .u64 vt19, .int .u64 bit47, .bool true, (j45 4), (j45 5), .tuple #[.int .u64 vt65, .int .u64 vt66], .int .u64 r46, .int .u64 bit47, .int .u64 (Go.bits .or .u64 r46 bit47), .int .u64 r46, .int .u64 bit47, .int .u64 (Go.bits .or .u64 r46 bit47), .tuple #[.int .u64 vt65, .int .u64 vt66], .int .u64 vt65, .int .u64 vt66, .int .u64 vt65, .int .u64 vt18, .bool true, .bool true, undef, undef, undef, undef, undef, undef, undef, undef, .bool true, (j45 29), (j45 30), (j45 31), undef, undef], []⟩) (by kernel_rfl) ?_
          refine wpList_nil ?_
          refine hK73 _ _ ?_
          refine condT (by kernel_rfl) ?_
          refine wp_region_lit ?_
          refine seqS4 (a' := ⟨#[.int .i64 a1, .int .i64 b2, undef, undef, .int .i64 0, .int .u64 vt18, .int .u64 vt19, .int .u64 (Go.bits .or .u64 r46 bit47), .int .u64 bit47, .int .u64 vt65, .int .u64 vt66, .int .i64 a1, .bool false, .bool false, .int .i64 b2, .bool false, .bool false, .tuple #[.int .u64 vt18, .int .u64 vt19], .int .i64 a1, .int .u64 (u64 (a1)), .int .i64 b2, .int .u64 (u64 (b2)), .tuple #[.int .u64 vt18, .int .u64 vt19], .int .u64 vt18, .int .u64 vt19, .int .u64 bit47, .bool true, (j45 4), (j45 5), .tuple #[.int .u64 vt65, .int .u64 vt66], .int .u64 r46, .int .u64 bit47, .int .u64 (Go.bits .or .u64 r46 bit47), .int .u64 r46, .int .u64 bit47, .int .u64 (Go.bits .or .u64 r46 bit47), .tuple #[.int .u64 vt65, .int .u64 vt66], .int .u64 vt65, .int .u64 vt66, .int .u64 vt65, .int .u64 vt18, .bool true, .bool true, undef, undef, undef, undef, undef, undef, undef, undef, .bool true, .int .u64 r46, .int .u64 bit47, .int .u64 (Go.bits .or .u64 r46 bit47), undef, undef], []⟩) (by kernel_rfl) ?_
          refine wpList_nil ?_
          refine hn58 _ _ ?_
          refine hK55 _ _ ?_
          refine wp_region_lit ?_
          refine seqS3 (a' := ⟨#[.int .i64 a1, .int .i64 b2, undef, undef, .int .i64 0, .int .u64 vt18, .int .u64 vt19, .int .u64 (Go.bits .or .u64 r46 bit47), .int .u64 (shr bit47 1), .int .u64 vt65, .int .u64 vt66, .int .i64 a1, .bool false, .bool false, .int .i64 b2, .bool false, .bool false, .tuple #[.int .u64 vt18, .int .u64 vt19], .int .i64 a1, .int .u64 (u64 (a1)), .int .i64 b2, .int .u64 (u64 (b2)), .tuple #[.int .u64 vt18, .int .u64 vt19], .int .u64 vt18, .int .u64 vt19, .int .u64 bit47, .bool true, .int .u64 bit47, .int .u64 (shr bit47 1), .tuple #[.int .u64 vt65, .int .u64 vt66], .int .u64 r46, .int .u64 bit47, .int .u64 (Go.bits .or .u64 r46 bit47), .int .u64 r46, .int .u64 bit47, .int .u64 (Go.bits .or .u64 r46 bit47), .tuple #[.int .u64 vt65, .int .u64 vt66], .int .u64 vt65, .int .u64 vt66, .int .u64 vt65, .int .u64 vt18, .bool true, .bool true, undef, undef, undef, undef, undef, undef, undef, undef, .bool true, .int .u64 r46, .int .u64 bit47, .int .u64 (Go.bits .or .u64 r46 bit47), undef, undef], []⟩) (by kernel_rfl) ?_
          refine wpList_nil ?_
          refine hK39 n40 _ _ (Nat.lt_succ_self _) ?_
          exact ⟨f68, (Go.bits .or .u64 r46 bit47), (shr bit47 1), (fun i_ => [Value.int .u64 vt65, Value.int .u64 vt66, Value.int .u64 bit47, Value.bool true, Value.int .u64 bit47, Value.int .u64 (shr bit47 1), Value.tuple #[.int .u64 vt65, .int .u64 vt66], Value.int .u64 r46, Value.int .u64 bit47, Value.int .u64 (Go.bits .or .u64 r46 bit47), Value.int .u64 r46, Value.int .u64 bit47, Value.int .u64 (Go.bits .or .u64 r46 bit47), Value.tuple #[.int .u64 vt65, .int .u64 vt66], Value.int .u64 vt65, Value.int .u64 vt66, Value.int .u64 vt65, Value.int .u64 vt18, Value.bool true, Value.bool true, undef, undef, undef, undef, undef, undef, undef, undef, Value.bool true, Value.int .u64 r46, Value.int .u64 bit47, Value.int .u64 (Go.bits .or .u64 r46 bit47)].getD i_ undef), (L42.trans L69), HS71, h, (by kernel_rfl)⟩
        · have c74 : ¬ (vt65 < vt18) := c74
          refine seqRwI 41 (x := (decide (vt65 < vt18))) (v := false) (by kernel_rfl) (decide_eq_false c74) ?_
          refine seqRwI 42 (x := (decide (vt65 < vt18))) (v := false) (by kernel_rfl) (decide_eq_false c74) ?_
          refine seqS4 (a' := ⟨#[.int .i64 a1, .int .i64 b2, undef, undef, .int .i64 0, .int .u64 vt18, .int .u64 vt19, .int .u64 r46, .int .u64 bit47, .int .u64 vt65, .int .u64 vt66, .int .i64 a1, .bool false, .bool false, .int .i64 b2, .bool false, .bool false, .tuple #[.int .u64 vt18, .int .u64 vt19], .int .i64 a1, .int .u64 (u64 (a1)), .int .i64 b2, .int .u64 (u64 (b2)), .tuple #[.int .u64 vt18, .int .u64 vt19], .int .u64 vt18, .int .u64 vt19, .int .u64 bit47, .bool true, (j45 4), (j45 5), .tuple #[.int .u64 vt65, .int .u64 vt66], .int .u64 r46, .int .u64 bit47, .int .u64 (Go.bits .or .u64 r46 bit47), .int .u64 r46, .int .u64 bit47, .int .u64 (Go.bits .or .u64 r46 bit47), .tuple #[.int .u64 vt65, .int .u64 vt66], .int .u64 vt65, .int .u64 vt66, .int .u64 vt65, .int .u64 vt18, .bool false, .bool false, .int .u64 vt65, .int .u64 vt18, .bool (vt65 == vt18), .bool (vt65 == vt18), (j45 24), (j45 25), (j45 26), (j45 27), (j45 28), (j45 29), (j45 30), (j45 31), undef, undef], []⟩) (by kernel_rfl) ?_
          have hq_ := ite_some h; clear h; rcases hq_ with ⟨c75, h⟩ | ⟨c75, h⟩
          · have c75 : vt65 = vt18 := c75
            refine seqRwI 45 (x := (vt65 == vt18)) (v := true) (by kernel_rfl) (beq_iff_eq.mpr c75) ?_
            refine seqRwI 46 (x := (vt65 == vt18)) (v := true) (by kernel_rfl) (beq_iff_eq.mpr c75) ?_
            refine seqS5 (a' := ⟨#[.int .i64 a1, .int .i64 b2, undef, undef, .int .i64 0, .int .u64 vt18, .int .u64 vt19, .int .u64 r46, .int .u64 bit47, .int .u64 vt65, .int .u64 vt66, .int .i64 a1, .bool false, .bool false, .int .i64 b2, .bool false, .bool false, .tuple #[.int .u64 vt18, .int .u64 vt19], .int .i64 a1, .int .u64 (u64 (a1)), .int .i64 b2, .int .u64 (u64 (b2)), .tuple #[.int .u64 vt18, .int .u64 vt19], .int .u64 vt18, .int .u64 vt19, .int .u64 bit47, .bool true, (j45 4), (j45 5), .tuple #[.int .u64 vt65, .int .u64 vt66], .int .u64 r46, .int .u64 bit47, .int .u64 (Go.bits .or .u64 r46 bit47), .int .u64 r46, .int .u64 bit47, .int .u64 (Go.bits .or .u64 r46 bit47), .tuple #[.int .u64 vt65, .int .u64 vt66], .int .u64 vt65, .int .u64 vt66, .int .u64 vt65, .int .u64 vt18, .bool false, .bool false, .int .u64 vt65, .int .u64 vt18, .bool true, .bool true, .int .u64 vt66, .int .u64 vt19, .bool (decide (vt66 ≤ vt19)), .bool (decide (vt66 ≤ vt19)), .bool (decide (vt66 ≤ vt19)), (j45 29), (j45 30), (j45 31), undef, undef], []⟩) (by kernel_rfl) ?_
            refine wpList_nil ?_
            refine hK73 _ _ ?_
            have hq_ := ite_some h; clear h; rcases hq_ with ⟨c77, h⟩ | ⟨c77, h⟩
            · have c77 : vt66 ≤ vt19 := c77
              refine wpRwI 49 (x := (decide (vt66 ≤ vt19))) (v := true) (by kernel_rfl) (decide_eq_true c77) ?_
              refine wpRwI 50 (x := (decide (vt66 ≤ vt19))) (v := true) (by kernel_rfl) (decide_eq_true c77) ?_
              refine wpRwI 51 (x := (decide (vt66 ≤ vt19))) (v := true) (by kernel_rfl) (decide_eq_true c77) ?_
              refine condT (by kernel_rfl) ?_
              refine wp_region_lit ?_
              refine seqS4 (a' := ⟨#[.int .i64 a1, .int .i64 b2, undef, undef, .int .i64 0, .int .u64 vt18, .int .u64 vt19, .int .u64 (Go.bits .or .u64 r46 bit47), .int .u64 bit47, .int .u64 vt65, .int .u64 vt66, .int .i64 a1, .bool false, .bool false, .int .i64 b2, .bool false, .bool false, .tuple #[.int .u64 vt18, .int .u64 vt19], .int .i64 a1, .int .u64 (u64 (a1)), .int .i64 b2, .int .u64 (u64 (b2)), .tuple #[.int .u64 vt18, .int .u64 vt19], .int .u64 vt18, .int .u64 vt19, .int .u64 bit47, .bool true, (j45 4), (j45 5), .tuple #[.int .u64 vt65, .int .u64 vt66], .int .u64 r46, .int .u64 bit47, .int .u64 (Go.bits .or .u64 r46 bit47), .int .u64 r46, .int .u64 bit47, .int .u64 (Go.bits .or .u64 r46 bit47), .tuple #[.int .u64 vt65, .int .u64 vt66], .int .u64 vt65, .int .u64 vt66, .int .u64 vt65, .int .u64 vt18, .bool false, .bool false, .int .u64 vt65, .int .u64 vt18, .bool true, .bool true, .int .u64 vt66, .int .u64 vt19, .bool true, .bool true, .bool true, .int .u64 r46, .int .u64 bit47, .int .u64 (Go.bits .or .u64 r46 bit47), undef, undef], []⟩) (by kernel_rfl) ?_
              refine wpList_nil ?_
              refine hn58 _ _ ?_
              refine hK55 _ _ ?_
              refine wp_region_lit ?_
              refine seqS3 (a' := ⟨#[.int .i64 a1, .int .i64 b2, undef, undef, .int .i64 0, .int .u64 vt18, .int .u64 vt19, .int .u64 (Go.bits .or .u64 r46 bit47), .int .u64 (shr bit47 1), .int .u64 vt65, .int .u64 vt66, .int .i64 a1, .bool false, .bool false, .int .i64 b2, .bool false, .bool false, .tuple #[.int .u64 vt18, .int .u64 vt19], .int .i64 a1, .int .u64 (u64 (a1)), .int .i64 b2, .int .u64 (u64 (b2)), .tuple #[.int .u64 vt18, .int .u64 vt19], .int .u64 vt18, .int .u64 vt19, .int .u64 bit47, .bool true, .int .u64 bit47, .int .u64 (shr bit47 1), .tuple #[.int .u64 vt65, .int .u64 vt66], .int .u64 r46, .int .u64 bit47, .int .u64 (Go.bits .or .u64 r46 bit47), .int .u64 r46, .int .u64 bit47, .int .u64 (Go.bits .or .u64 r46 bit47), .tuple #[.int .u64 vt65, .int .u64 vt66], .int .u64 vt65, .int .u64 vt66, .int .u64 vt65, .int .u64 vt18, .bool false, .bool false, .int .u64 vt65, .int .u64 vt18, .bool true, .bool true, .int .u64 vt66, .int .u64 vt19, .bool true, .bool true, .bool true, .int .u64 r46, .int .u64 bit47, .int .u64 (Go.bits .or .u64 r46 bit47), undef, undef], []⟩) (by kernel_rfl) ?_
              refine wpList_nil ?_
              refine hK39 n40 _ _ (Nat.lt_succ_self _) ?_
              exact ⟨f68, (Go.bits .or .u64 r46 bit47), (shr bit47 1), (fun i_ => [Value.int .u64 vt65, Value.int .u64 vt66, Value.int .u64 bit47, Value.bool true, Value.int .u64 bit47, Value.int .u64 (shr bit47 1), Value.tuple #[.int .u64 vt65, .int .u64 vt66], Value.int .u64 r46, Value.int .u64 bit47, Value.int .u64 (Go.bits .or .u64 r46 bit47), Value.int .u64 r46, Value.int .u64 bit47, Value.int .u64 (Go.bits .or .u64 r46 bit47), Value.tuple #[.int .u64 vt65, .int .u64 vt66], Value.int .u64 vt65, Value.int .u64 vt66, Value.int .u64 vt65, Value.int .u64 vt18, Value.bool false, Value.bool false, Value.int .u64 vt65, Value.int .u64 vt18, Value.bool true, Value.bool true, Value.int .u64 vt66, Value.int .u64 vt19, Value.bool true, Value.bool true, Value.bool true, Value.int .u64 r46, Value.int .u64 bit47, Value.int .u64 (Go.bits .or .u64 r46 bit47)].getD i_ undef), (L42.trans L69), HS71, h, (by kernel_rfl)⟩
            · have c77 : ¬ (vt66 ≤ vt19) := c77
              refine wpRwI 49 (x := (decide (vt66 ≤ vt19))) (v := false) (by kernel_rfl) (decide_eq_false c77) ?_
              refine wpRwI 50 (x := (decide (vt66 ≤ vt19))) (v := false) (by kernel_rfl) (decide_eq_false c77) ?_
              refine wpRwI 51 (x := (decide (vt66 ≤ vt19))) (v := false) (by kernel_rfl) (decide_eq_false c77) ?_
              refine condF (by kernel_rfl) ?_
              refine wp_skip ?_
              refine hn58 _ _ ?_
              refine hK55 _ _ ?_
              refine wp_region_lit ?_
              refine seqS3 (a' := ⟨#[.int .i64 a1, .int .i64 b2, undef, undef, .int .i64 0, .int .u64 vt18, .int .u64 vt19, .int .u64 r46, .int .u64 (shr bit47 1), .int .u64 vt65, .int .u64 vt66, .int .i64 a1, .bool false, .bool false, .int .i64 b2, .bool false, .bool false, .tuple #[.int .u64 vt18, .int .u64 vt19], .int .i64 a1, .int .u64 (u64 (a1)), .int .i64 b2, .int .u64 (u64 (b2)), .tuple #[.int .u64 vt18, .int .u64 vt19], .int .u64 vt18, .int .u64 vt19, .int .u64 bit47, .bool true, .int .u64 bit47, .int .u64 (shr bit47 1), .tuple #[.int .u64 vt65, .int .u64 vt66], .int .u64 r46, .int .u64 bit47, .int .u64 (Go.bits .or .u64 r46 bit47), .int .u64 r46, .int .u64 bit47, .int .u64 (Go.bits .or .u64 r46 bit47), .tuple #[.int .u64 vt65, .int .u64 vt66], .int .u64 vt65, .int .u64 vt66, .int .u64 vt65, .int .u64 vt18, .bool false, .bool false, .int .u64 vt65, .int .u64 vt18, .bool true, .bool true, .int .u64 vt66, .int .u64 vt19, .bool false, .bool false, .bool false, (j45 29), (j45 30), (j45 31), undef, undef], []⟩) (by kernel_rfl) ?_
              refine wpList_nil ?_
              refine hK39 n40 _ _ (Nat.lt_succ_self _) ?_
              exact ⟨f68, r46, (shr bit47 1), (fun i_ => [Value.int .u64 vt65, Value.int .u64 vt66, Value.int .u64 bit47, Value.bool true, Value.int .u64 bit47, Value.int .u64 (shr bit47 1), Value.tuple #[.int .u64 vt65, .int .u64 vt66], Value.int .u64 r46, Value.int .u64 bit47, Value.int .u64 (Go.bits .or .u64 r46 bit47), Value.int .u64 r46, Value.int .u64 bit47, Value.int .u64 (Go.bits .or .u64 r46 bit47), Value.tuple #[.int .u64 vt65, .int .u64 vt66], Value.int .u64 vt65, Value.int .u64 vt66, Value.int .u64 vt65, Value.int .u64 vt18, Value.bool false, Value.bool false, Value.int .u64 vt65, Value.int .u64 vt18, Value.bool true, Value.bool true, Value.int .u64 vt66, Value.int .u64 vt19, Value.bool false, Value.bool false, Value.bool false, (j45 29), (j45 30), (j45 31)].getD i_ undef), (L42.trans L69), HS71, h, (by kernel_rfl)⟩
          · have c75 : ¬ (vt65 = vt18) := c75
            refine seqRwI 45 (x := (vt65 == vt18)) (v := false) (by kernel_rfl) (beq_eq_false_iff_ne.mpr c75) ?_
            refine seqRwI 46 (x := (vt65 == vt18)) (v := false) (by kernel_rfl) (beq_eq_false_iff_ne.mpr c75) ?_
            refine seqS5 (a' := ⟨#[.int .i64 a1, .int .i64 b2, undef, undef, .int .i64 0, .int .u64 vt18, .int .u64 vt19, .int .u64 r46, .int .u64 bit47, .int .u64 vt65, .int .u64 vt66, .int .i64 a1, .bool false, .bool false, .int .i64 b2, .bool false, .bool false, .tuple #[.int .u64 vt18, .int .u64 vt19], .int .i64 a1, .int .u64 (u64 (a1)), .int .i64 b2, .int .u64 (u64 (b2)), .tuple #[.int .u64 vt18, .int .u64 vt19], .int .u64 vt18, .int .u64 vt19, .int .u64 bit47, .bool true, (j45 4), (j45 5), .tuple #[.int .u64 vt65, .int .u64 vt66], .int .u64 r46, .int .u64 bit47, .int .u64 (Go.bits .or .u64 r46 bit47), .int .u64 r46, .int .u64 bit47, .int .u64 (Go.bits .or .u64 r46 bit47), .tuple #[.int .u64 vt65, .int .u64 vt66], .int .u64 vt65, .int .u64 vt66, .int .u64 vt65, .int .u64 vt18, .bool false, .bool false, .int .u64 vt65, .int .u64 vt18, .bool false, .bool false, undef, undef, undef, .bool false, .bool false, (j45 29), (j45 30), (j45 31), undef, undef], []⟩) (by kernel_rfl) ?_
            refine wpList_nil ?_
            refine hK73 _ _ ?_
            refine condF (by kernel_rfl) ?_
            refine wp_skip ?_
            refine hn58 _ _ ?_
            refine hK55 _ _ ?_
            refine wp_region_lit ?_
            refine seqS3 (a' := ⟨#[.int .i64 a1, .int .i64 b2, undef, undef, .int .i64 0, .int .u64 vt18, .int .u64 vt19, .int .u64 r46, .int .u64 (shr bit47 1), .int .u64 vt65, .int .u64 vt66, .int .i64 a1, .bool false, .bool false, .int .i64 b2, .bool false, .bool false, .tuple #[.int .u64 vt18, .int .u64 vt19], .int .i64 a1, .int .u64 (u64 (a1)), .int .i64 b2, .int .u64 (u64 (b2)), .tuple #[.int .u64 vt18, .int .u64 vt19], .int .u64 vt18, .int .u64 vt19, .int .u64 bit47, .bool true, .int .u64 bit47, .int .u64 (shr bit47 1), .tuple #[.int .u64 vt65, .int .u64 vt66], .int .u64 r46, .int .u64 bit47, .int .u64 (Go.bits .or .u64 r46 bit47), .int .u64 r46, .int .u64 bit47, .int .u64 (Go.bits .or .u64 r46 bit47), .tuple #[.int .u64 vt65, .int .u64 vt66], .int .u64 vt65, .int .u64 vt66, .int .u64 vt65, .int .u64 vt18, .bool false, .bool false, .int .u64 vt65, .int .u64 vt18, .bool false, .bool false, undef, undef, undef, .bool false, .bool false, (j45 29), (j45 30), (j45 31), undef, undef], []⟩) (by kernel_rfl) ?_
            refine wpList_nil ?_
            refine hK39 n40 _ _ (Nat.lt_succ_self _) ?_
            exact ⟨f68, r46, (shr bit47 1), (fun i_ => [Value.int .u64 vt65, Value.int .u64 vt66, Value.int .u64 bit47, Value.bool true, Value.int .u64 bit47, Value.int .u64 (shr bit47 1), Value.tuple #[.int .u64 vt65, .int .u64 vt66], Value.int .u64 r46, Value.int .u64 bit47, Value.int .u64 (Go.bits .or .u64 r46 bit47), Value.int .u64 r46, Value.int .u64 bit47, Value.int .u64 (Go.bits .or .u64 r46 bit47), Value.tuple #[.int .u64 vt65, .int .u64 vt66], Value.int .u64 vt65, Value.int .u64 vt66, Value.int .u64 vt65, Value.int .u64 vt18, Value.bool false, Value.bool false, Value.int .u64 vt65, Value.int .u64 vt18, Value.bool false, Value.bool false, undef, undef, undef, Value.bool false, Value.bool false, (j45 29), (j45 30), (j45 31)].getD i_ undef), (L42.trans L69), HS71, h, (by kernel_rfl)⟩
      · have c53 : ¬ (bit47 > 0) := c53
        refine wpRwI 26 (x := (decide (bit47 > 0))) (v := false) (by kernel_rfl) (decide_eq_false c53) ?_
        refine condF (by kernel_rfl) ?_
        refine wp_exit ?_
        refine hx32 _ _ ?_
        exact J85 f41 r46 (fun i_ => [Value.int .u64 bit47, (j45 0), (j45 1), Value.int .u64 bit47, Value.bool false, (j45 4), (j45 5), (j45 6), (j45 7), (j45 8), (j45 9), (j45 10), (j45 11), (j45 12), (j45 13), (j45 14), (j45 15), (j45 16), (j45 17), (j45 18), (j45 19), (j45 20), (j45 21), (j45 22), (j45 23), (j45 24), (j45 25), (j45 26), (j45 27), (j45 28), (j45 29), (j45 30), (j45 31)].getD i_ undef) W43 _ L42 h HS44 (by kernel_rfl)

set_option maxRecDepth 100000 in
set_option maxHeartbeats 4000000 in
theorem num_Sqrt.calls (k : Nat)  (a1 : Int) {t w : World} {f : FM} {H : List Seg} (HS : St t w f (H)) (r1 : Int) (h : num_Sqrt k a1 = some r1) :
    Calls Try.prog 57 #[.int .i64 a1] w (fun e w' => ∃ (g : FM), e = .returned (Value.int .i64 r1) ∧ FM.le f g ∧ St t w' g (H)) := by
  unfold num_Sqrt at h
  refine enter Try.func57 rfl (tm := #[.int .i64 a1, undef, undef, undef, undef]) (by kernel_rfl) ?_
  intro B hret hnor hnp
  refine wp_seq_k (fun K2 hK3 => ?_)
  refine wp_region_lit ?_
  refine seqS1 (a' := ⟨#[.int .i64 a1, undef, .int .i64 0, undef, undef], []⟩) (by kernel_rfl) ?_
  refine wpList_nil ?_
  refine hK3 _ _ ?_
  refine wp_seq_k (fun K4 hK5 => ?_)
  refine wp_region_lit ?_
  have hq_ := bind_some h; clear h; obtain ⟨vt6, hc7, h⟩ := hq_
  refine seqL1 (by kernel_rfl) ?_
  refine seqK rfl (does_call (f := 77) (args := #[.int .i64 a1, .int .i64 1]) (by kernel_rfl) (num_SqrtMul.calls k a1 1 HS vt6 hc7) ?_)
  rintro _ W10 ⟨f8, rfl, L9, HS11⟩
  refine ⟨_, rfl, ?_⟩
  refine seqS1 (a' := ⟨#[.int .i64 a1, undef, .int .i64 vt6, .int .i64 a1, .int .i64 vt6], []⟩) (by kernel_rfl) ?_
  refine wpList_nil ?_
  refine hK5 _ _ ?_
  refine wp_ret ?_
  refine hret _ _ ?_
  refine ends_still (v := Value.int .i64 vt6) (by kernel_rfl) (by kernel_rfl) ?_
  injection h with h
  subst h
  exact ⟨f8, rfl, L9, HS11⟩

set_option maxRecDepth 100000 in
set_option maxHeartbeats 4000000 in
theorem quanta_root.calls (k : Nat)  (q1 : Int) {t w : World} {f : FM} {H : List Seg} (HS : St t w f (H)) (r1 : Int) (h : quanta_root k q1 = some r1) :
    Calls Try.prog 38 #[.int .i64 q1] w (fun e w' => ∃ (g : FM), e = .returned (Value.int .i64 r1) ∧ FM.le f g ∧ St t w' g (H)) := by
  unfold quanta_root at h
  refine enter Try.func38 rfl (tm := #[.int .i64 q1, undef, undef, undef, undef]) (by kernel_rfl) ?_
  intro B hret hnor hnp
  refine wp_seq_k (fun K2 hK3 => ?_)
  refine wp_region_lit ?_
  refine seqS1 (a' := ⟨#[.int .i64 q1, undef, .int .i64 0, undef, undef], []⟩) (by kernel_rfl) ?_
  refine wpList_nil ?_
  refine hK3 _ _ ?_
  refine wp_seq_k (fun K4 hK5 => ?_)
  refine wp_region_lit ?_
  have hq_ := bind_some h; clear h; obtain ⟨vt6, hc7, h⟩ := hq_
  refine seqL1 (by kernel_rfl) ?_
  refine seqK rfl (does_call (f := 57) (args := #[.int .i64 q1]) (by kernel_rfl) (num_Sqrt.calls k q1 HS vt6 hc7) ?_)
  rintro _ W10 ⟨f8, rfl, L9, HS11⟩
  refine ⟨_, rfl, ?_⟩
  refine seqS1 (a' := ⟨#[.int .i64 q1, undef, .int .i64 vt6, .int .i64 q1, .int .i64 vt6], []⟩) (by kernel_rfl) ?_
  refine wpList_nil ?_
  refine hK5 _ _ ?_
  refine wp_ret ?_
  refine hret _ _ ?_
  refine ends_still (v := Value.int .i64 vt6) (by kernel_rfl) (by kernel_rfl) ?_
  injection h with h
  subst h
  exact ⟨f8, rfl, L9, HS11⟩

set_option maxRecDepth 100000 in
set_option maxHeartbeats 4000000 in
theorem quanta_Draw.calls (k : Nat)  (seed1 : Int) (n2 : Int) (m3 : Int) {t w : World} {f : FM} {H : List Seg} (HS : St t w f (H)) (r1 : Int) (r2 : Int) (h : quanta_Draw k seed1 n2 m3 = some (r1, r2)) :
    Calls Try.prog 16 #[.int .u64 seed1, .int .i64 n2, .int .i64 m3] w (fun e w' => ∃ (g : FM), e = .returned (Value.tuple #[.int .i64 r1, .int .i64 r2]) ∧ FM.le f g ∧ St t w' g (H)) := by
  unfold quanta_Draw at h
  refine enter Try.func16 rfl (tm := #[.int .u64 seed1, .int .i64 n2, .int .i64 m3, undef, undef, undef, undef, undef, undef, undef, undef, undef, undef, undef, undef, undef, undef, undef, undef, undef, undef, undef, undef, undef, undef, undef, undef, undef, undef, undef, undef, undef, undef, undef, undef, undef, undef, undef, undef, undef, undef, undef, undef, undef, undef, undef, undef, undef]) (by kernel_rfl) ?_
  intro B hret hnor hnp
  refine wp_seq_k (fun K4 hK5 => ?_)
  refine wp_region_lit ?_
  refine seqS2 (a' := ⟨#[.int .u64 seed1, .int .i64 n2, .int .i64 m3, undef, undef, undef, .int .i64 0, .int .i64 0, undef, undef, undef, undef, undef, undef, undef, undef, undef, undef, undef, undef, undef, undef, undef, undef, undef, undef, undef, undef, undef, undef, undef, undef, undef, undef, undef, undef, undef, undef, undef, undef, undef, undef, undef, undef, undef, undef, undef, undef], []⟩) (by kernel_rfl) ?_
  refine wpList_nil ?_
  refine hK5 _ _ ?_
  refine wp_seq_k (fun K6 hK7 => ?_)
  refine wp_seq_k (fun K8 hK9 => ?_)
  refine wp_region_lit ?_
  have hq_ := bind_some h; clear h; obtain ⟨vt10, hc11, h⟩ := hq_
  refine seqL1 (by kernel_rfl) ?_
  refine seqK rfl (does_call (f := 35) (args := #[.int .i64 m3]) (by kernel_rfl) (quanta_valid.calls k m3 HS vt10 hc11) ?_)
  rintro _ W14 ⟨f12, rfl, L13, HS15⟩
  refine ⟨_, rfl, ?_⟩
  refine seqS1 (a' := ⟨#[.int .u64 seed1, .int .i64 n2, .int .i64 m3, undef, undef, undef, .int .i64 0, .int .i64 0, undef, undef, undef, .int .i64 m3, .bool vt10, .bool (!vt10), undef, undef, undef, undef, undef, undef, undef, undef, undef, undef, undef, undef, undef, undef, undef, undef, undef, undef, undef, undef, undef, undef, undef, undef, undef, undef, undef, undef, undef, undef, undef, undef, undef, undef], []⟩) (by kernel_rfl) ?_
  refine wpList_nil ?_
  refine hK9 _ _ ?_
  have hq_ := ite_some h; clear h; rcases hq_ with ⟨c17, h⟩ | ⟨c17, h⟩
  · have c17 : ¬ (vt10 = true) := c17
    refine wpRwI 13 (x := (!vt10)) (v := true) (by kernel_rfl) (congrArg (fun b_ => !b_) (show vt10 = false from (Bool.eq_false_iff.mpr c17)) : (!vt10) = true) ?_
    refine condT (by kernel_rfl) ?_
    refine wp_seq_k (fun K18 hK19 => ?_)
    refine wp_region_lit ?_
    refine seqS2 (a' := ⟨#[.int .u64 seed1, .int .i64 n2, .int .i64 m3, undef, undef, undef, .int .i64 0, .int .i64 4, undef, undef, undef, .int .i64 m3, .bool vt10, .bool true, undef, undef, undef, undef, undef, undef, undef, undef, undef, undef, undef, undef, undef, undef, undef, undef, undef, undef, undef, undef, undef, undef, undef, undef, undef, undef, undef, undef, undef, undef, undef, undef, undef, undef], []⟩) (by kernel_rfl) ?_
    refine wpList_nil ?_
    refine hK19 _ _ ?_
    refine wp_ret ?_
    refine hret _ _ ?_
    refine ends_still (v := Value.tuple #[.int .i64 0, .int .i64 4]) (by kernel_rfl) (by kernel_rfl) ?_
    injection h with h
    injection h with h0_ h
    subst h0_ h
    exact ⟨f12, rfl, L13, HS15⟩
  · have c17 : ¬ (¬ (vt10 = true)) := c17
    refine wpRwI 13 (x := (!vt10)) (v := false) (by kernel_rfl) (congrArg (fun b_ => !b_) (show vt10 = true from (Decidable.of_not_not c17)) : (!vt10) = false) ?_
    refine condF (by kernel_rfl) ?_
    refine wp_skip ?_
    refine hK7 _ _ ?_
    refine wp_seq_k (fun K20 hK21 => ?_)
    refine wp_region_lit ?_
    have hq_ := bind_some h; clear h; obtain ⟨vt22, hc23, h⟩ := hq_
    refine seqL1 (by kernel_rfl) ?_
    refine seqK rfl (does_call (f := 36) (args := #[.int .i64 m3]) (by kernel_rfl) (quanta_whole.calls k m3 HS15 vt22 hc23) ?_)
    rintro _ W26 ⟨f24, rfl, L25, HS27⟩
    refine ⟨_, rfl, ?_⟩
    refine seqS1 (a' := ⟨#[.int .u64 seed1, .int .i64 n2, .int .i64 m3, undef, undef, undef, .int .i64 0, .int .i64 0, .int .i64 vt22, undef, undef, .int .i64 m3, .bool vt10, .bool false, .int .i64 m3, .int .i64 vt22, undef, undef, undef, undef, undef, undef, undef, undef, undef, undef, undef, undef, undef, undef, undef, undef, undef, undef, undef, undef, undef, undef, undef, undef, undef, undef, undef, undef, undef, undef, undef, undef], []⟩) (by kernel_rfl) ?_
    refine wpList_nil ?_
    refine hK21 _ _ ?_
    refine wp_seq_k (fun K28 hK29 => ?_)
    refine wp_region_lit ?_
    have hq_ := bind_some h; clear h; obtain ⟨vt30, hc31, h⟩ := hq_
    refine seqL1 (by kernel_rfl) ?_
    refine seqK rfl (does_call (f := 38) (args := #[.int .i64 vt22]) (by kernel_rfl) (quanta_root.calls k vt22 HS27 vt30 hc31) ?_)
    rintro _ W34 ⟨f32, rfl, L33, HS35⟩
    refine ⟨_, rfl, ?_⟩
    refine seqS1 (a' := ⟨#[.int .u64 seed1, .int .i64 n2, .int .i64 m3, undef, undef, undef, .int .i64 0, .int .i64 0, .int .i64 vt22, .int .i64 vt30, undef, .int .i64 m3, .bool vt10, .bool false, .int .i64 m3, .int .i64 vt22, .int .i64 vt22, .int .i64 vt30, undef, undef, undef, undef, undef, undef, undef, undef, undef, undef, undef, undef, undef, undef, undef, undef, undef, undef, undef, undef, undef, undef, undef, undef, undef, undef, undef, undef, undef, undef], []⟩) (by kernel_rfl) ?_
    refine wpList_nil ?_
    refine hK29 _ _ ?_
    refine wp_seq_k (fun K36 hK37 => ?_)
    refine wp_seq_k (fun K38 hK39 => ?_)
    refine wp_region_lit ?_
    have hq_ := bind_some h; clear h; obtain ⟨vt40, hc41, h⟩ := hq_
    refine seqL3 (by kernel_rfl) ?_
    refine seqK rfl (does_call (f := 40) (args := #[.int .u64 seed1, .int .i64 (w64 (4 * n2))]) (by kernel_rfl) (quanta_Mix.calls k seed1 (w64 (4 * n2)) HS35 vt40 hc41) ?_)
    rintro _ W44 ⟨f42, rfl, L43, HS45⟩
    refine ⟨_, rfl, ?_⟩
    have hq_ := bind_some h; clear h; obtain ⟨vt46, hc47, h⟩ := hq_
    refine seqK rfl (does_call (f := 39) (args := #[.int .u64 vt40, .int .i64 16777216]) (by kernel_rfl) (quanta_Below.calls k vt40 16777216 HS45 vt46 hc47) ?_)
    rintro _ W50 ⟨f48, rfl, L49, HS51⟩
    refine ⟨_, rfl, ?_⟩
    refine seqS3 (a' := ⟨#[.int .u64 seed1, .int .i64 n2, .int .i64 m3, undef, undef, undef, .int .i64 0, .int .i64 0, .int .i64 vt22, .int .i64 vt30, undef, .int .i64 m3, .bool vt10, .bool false, .int .i64 m3, .int .i64 vt22, .int .i64 vt22, .int .i64 vt30, .int .u64 seed1, .int .i64 n2, .int .i64 (w64 (4 * n2)), .int .u64 vt40, .int .i64 vt46, .int .i64 m3, .int .i64 (Int.tmod m3 16777216), .bool (decide (vt46 < (Int.tmod m3 16777216))), undef, undef, undef, undef, undef, undef, undef, undef, undef, undef, undef, undef, undef, undef, undef, undef, undef, undef, undef, undef, undef, undef], []⟩) (by kernel_rfl) ?_
    refine wpList_nil ?_
    refine hK39 _ _ ?_
    have hq_ := bind_some h; clear h; obtain ⟨v52, hv60, h⟩ := hq_
    have J61 : ∀ (f54 : FM) (q59 : Int) (j58 : Nat → Value) (W56 : World) (a_ : Act), FM.le f48 f54 → some (q59) = some v52 → St t W56 f54 (H) → a_ = ⟨#[.int .u64 seed1, .int .i64 n2, .int .i64 m3, undef, undef, undef, .int .i64 0, .int .i64 0, .int .i64 q59, .int .i64 vt30, undef, .int .i64 m3, .bool vt10, .bool false, .int .i64 m3, .int .i64 vt22, .int .i64 vt22, .int .i64 vt30, .int .u64 seed1, .int .i64 n2, .int .i64 (w64 (4 * n2)), .int .u64 vt40, .int .i64 vt46, .int .i64 m3, .int .i64 (Int.tmod m3 16777216), (j58 0), (j58 1), (j58 2), undef, undef, undef, undef, undef, undef, undef, undef, undef, undef, undef, undef, undef, undef, undef, undef, undef, undef, undef, undef], []⟩ → K36 a_ W56 := by
      intro f54 q59 j58 W56 a_ L55 hj62 HS57  hfr_; subst hfr_
      injection hj62 with hj62; subst hj62; try dsimp only at h
      refine hK37 _ _ ?_
      refine wp_seq_k (fun K63 hK64 => ?_)
      refine wp_seq_k (fun K65 hK66 => ?_)
      refine wp_region_lit ?_
      refine seqS1 (a' := ⟨#[.int .u64 seed1, .int .i64 n2, .int .i64 m3, undef, undef, undef, .int .i64 0, .int .i64 0, .int .i64 q59, .int .i64 vt30, .int .i64 1, .int .i64 m3, .bool vt10, .bool false, .int .i64 m3, .int .i64 vt22, .int .i64 vt22, .int .i64 vt30, .int .u64 seed1, .int .i64 n2, .int .i64 (w64 (4 * n2)), .int .u64 vt40, .int .i64 vt46, .int .i64 m3, .int .i64 (Int.tmod m3 16777216), (j58 0), (j58 1), (j58 2), undef, undef, undef, undef, undef, undef, undef, undef, undef, undef, undef, undef, undef, undef, undef, undef, undef, undef, undef, undef], []⟩) (by kernel_rfl) ?_
      refine wpList_nil ?_
      refine hK66 _ _ ?_
      refine blockK (fun B67 hx68 hn69 hr70 ho71 hp72 => ?_)
      have hq_ := bind_some h; clear h; obtain ⟨o73, hv117, h⟩ := hq_
      have J118 : ∀ (f111 : FM) (q116 : Int) (j115 : Nat → Value) (W113 : World) (a_ : Act), FM.le f54 f111 → some (q116) = some o73 → St t W113 f111 (H) → a_ = ⟨#[.int .u64 seed1, .int .i64 n2, .int .i64 m3, undef, undef, undef, .int .i64 0, .int .i64 0, .int .i64 q116, .int .i64 vt30, (j115 0), .int .i64 m3, .bool vt10, .bool false, .int .i64 m3, .int .i64 vt22, .int .i64 vt22, .int .i64 vt30, .int .u64 seed1, .int .i64 n2, .int .i64 (w64 (4 * n2)), .int .u64 vt40, .int .i64 vt46, .int .i64 m3, .int .i64 (Int.tmod m3 16777216), (j58 0), (j58 1), (j58 2), (j115 1), (j115 2), (j115 3), (j115 4), (j115 5), (j115 6), (j115 7), (j115 8), (j115 9), (j115 10), (j115 11), (j115 12), (j115 13), (j115 14), (j115 15), (j115 16), (j115 17), (j115 18), undef, undef], []⟩ → K63 a_ W113 := by
        intro f111 q116 j115 W113 a_ L112 hj119 HS114  hfr_; subst hfr_
        injection hj119 with hj119; subst hj119; try dsimp only at h
        refine hK64 _ _ ?_
        refine wp_seq_k (fun K120 hK121 => ?_)
        refine wp_region_lit ?_
        refine seqS4 (a' := ⟨#[.int .u64 seed1, .int .i64 n2, .int .i64 m3, undef, undef, undef, .int .i64 (mx 0 q116), .int .i64 0, .int .i64 q116, .int .i64 vt30, (j115 0), .int .i64 m3, .bool vt10, .bool false, .int .i64 m3, .int .i64 vt22, .int .i64 vt22, .int .i64 vt30, .int .u64 seed1, .int .i64 n2, .int .i64 (w64 (4 * n2)), .int .u64 vt40, .int .i64 vt46, .int .i64 m3, .int .i64 (Int.tmod m3 16777216), (j58 0), (j58 1), (j58 2), (j115 1), (j115 2), (j115 3), (j115 4), (j115 5), (j115 6), (j115 7), (j115 8), (j115 9), (j115 10), (j115 11), (j115 12), (j115 13), (j115 14), (j115 15), (j115 16), (j115 17), (j115 18), .int .i64 q116, .int .i64 (mx 0 q116)], []⟩) (by kernel_rfl) ?_
        refine wpList_nil ?_
        refine hK121 _ _ ?_
        refine wp_ret ?_
        refine hret _ _ ?_
        refine ends_still (v := Value.tuple #[.int .i64 (mx 0 q116), .int .i64 0]) (by kernel_rfl) (by kernel_rfl) ?_
        injection h with h
        injection h with h0_ h
        subst h0_ h
        exact ⟨f111, rfl, (L13.trans (L25.trans (L33.trans (L43.trans (L49.trans (L55.trans L112)))))), HS114⟩
      clear h; have h := hv117; clear hv117
      refine loopK (fun n_ a_ w_ => ∃ (f77 : FM) (q82 : Int) (vk83 : Int) (j81 : Nat → Value), FM.le f54 f77 ∧ St t w_ f77 (H) ∧ quanta_Draw.l0 k seed1 n2 vt30 n_ q82 vk83 = some o73 ∧ a_ = ⟨#[.int .u64 seed1, .int .i64 n2, .int .i64 m3, undef, undef, undef, .int .i64 0, .int .i64 0, .int .i64 q82, .int .i64 vt30, .int .i64 vk83, .int .i64 m3, .bool vt10, .bool false, .int .i64 m3, .int .i64 vt22, .int .i64 vt22, .int .i64 vt30, .int .u64 seed1, .int .i64 n2, .int .i64 (w64 (4 * n2)), .int .u64 vt40, .int .i64 vt46, .int .i64 m3, .int .i64 (Int.tmod m3 16777216), (j58 0), (j58 1), (j58 2), (j81 0), (j81 1), (j81 2), (j81 3), (j81 4), (j81 5), (j81 6), (j81 7), (j81 8), (j81 9), (j81 10), (j81 11), (j81 12), (j81 13), (j81 14), (j81 15), (j81 16), (j81 17), undef, undef], []⟩) k ⟨f54, q59, 1, (fun i_ => [undef, undef, undef, undef, undef, undef, undef, undef, undef, undef, undef, undef, undef, undef, undef, undef, undef, undef].getD i_ undef), (FM.le.refl _), HS57, h, (by kernel_rfl)⟩ ?_
      clear h
      rintro n76 _ W79 ⟨f77, q82, vk83, j81, L78, HS80, h, rfl⟩ K74 hK75
      obtain _ | n76 := n76
      · exact nomatch h
      simp only [quanta_Draw.l0] at h
      refine wp_seq_k (fun K84 hK85 => ?_)
      refine wp_seq_k (fun K86 hK87 => ?_)
      refine wp_region_lit ?_
      refine seqS2 (a' := ⟨#[.int .u64 seed1, .int .i64 n2, .int .i64 m3, undef, undef, undef, .int .i64 0, .int .i64 0, .int .i64 q82, .int .i64 vt30, .int .i64 vk83, .int .i64 m3, .bool vt10, .bool false, .int .i64 m3, .int .i64 vt22, .int .i64 vt22, .int .i64 vt30, .int .u64 seed1, .int .i64 n2, .int .i64 (w64 (4 * n2)), .int .u64 vt40, .int .i64 vt46, .int .i64 m3, .int .i64 (Int.tmod m3 16777216), (j58 0), (j58 1), (j58 2), .int .i64 vk83, .bool (decide (vk83 ≤ 3)), (j81 2), (j81 3), (j81 4), (j81 5), (j81 6), (j81 7), (j81 8), (j81 9), (j81 10), (j81 11), (j81 12), (j81 13), (j81 14), (j81 15), (j81 16), (j81 17), undef, undef], []⟩) (by kernel_rfl) ?_
      refine wpList_nil ?_
      refine hK87 _ _ ?_
      have hq_ := ite_some h; clear h; rcases hq_ with ⟨c89, h⟩ | ⟨c89, h⟩
      · have c89 : vk83 ≤ 3 := c89
        refine wpRwI 29 (x := (decide (vk83 ≤ 3))) (v := true) (by kernel_rfl) (decide_eq_true c89) ?_
        refine condT (by kernel_rfl) ?_
        refine wp_skip ?_
        refine hK85 _ _ ?_
        refine wp_seq_k (fun K90 hK91 => ?_)
        refine blockK (fun B92 hx93 hn94 hr95 ho96 hp97 => ?_)
        refine wp_region_lit ?_
        have hq_ := bind_some h; clear h; obtain ⟨vt99, hc100, h⟩ := hq_
        refine seqL6 (by kernel_rfl) ?_
        refine seqK rfl (does_call (f := 40) (args := #[.int .u64 seed1, .int .i64 (w64 ((w64 (4 * n2)) + vk83))]) (by kernel_rfl) (quanta_Mix.calls k seed1 (w64 ((w64 (4 * n2)) + vk83)) HS80 vt99 hc100) ?_)
        rintro _ W103 ⟨f101, rfl, L102, HS104⟩
        refine ⟨_, rfl, ?_⟩
        have hq_ := bind_some h; clear h; obtain ⟨vt105, hc106, h⟩ := hq_
        refine seqL3 (by kernel_rfl) ?_
        refine seqK rfl (does_call (f := 39) (args := #[.int .u64 vt99, .int .i64 (w64 ((w64 (2 * vt30)) + 1))]) (by kernel_rfl) (quanta_Below.calls k vt99 (w64 ((w64 (2 * vt30)) + 1)) HS104 vt105 hc106) ?_)
        rintro _ W109 ⟨f107, rfl, L108, HS110⟩
        refine ⟨_, rfl, ?_⟩
        refine seqS4 (a' := ⟨#[.int .u64 seed1, .int .i64 n2, .int .i64 m3, undef, undef, undef, .int .i64 0, .int .i64 0, .int .i64 (w64 (q82 + (w64 (vt105 - vt30)))), .int .i64 vt30, .int .i64 vk83, .int .i64 m3, .bool vt10, .bool false, .int .i64 m3, .int .i64 vt22, .int .i64 vt22, .int .i64 vt30, .int .u64 seed1, .int .i64 n2, .int .i64 (w64 (4 * n2)), .int .u64 vt40, .int .i64 vt46, .int .i64 m3, .int .i64 (Int.tmod m3 16777216), (j58 0), (j58 1), (j58 2), .int .i64 vk83, .bool true, (j81 2), (j81 3), .int .i64 q82, .int .u64 seed1, .int .i64 n2, .int .i64 (w64 (4 * n2)), .int .i64 vk83, .int .i64 (w64 ((w64 (4 * n2)) + vk83)), .int .u64 vt99, .int .i64 vt30, .int .i64 (w64 (2 * vt30)), .int .i64 (w64 ((w64 (2 * vt30)) + 1)), .int .i64 vt105, .int .i64 vt30, .int .i64 (w64 (vt105 - vt30)), .int .i64 (w64 (q82 + (w64 (vt105 - vt30)))), undef, undef], []⟩) (by kernel_rfl) ?_
        refine wpList_nil ?_
        refine hn94 _ _ ?_
        refine hK91 _ _ ?_
        refine wp_region_lit ?_
        refine seqS3 (a' := ⟨#[.int .u64 seed1, .int .i64 n2, .int .i64 m3, undef, undef, undef, .int .i64 0, .int .i64 0, .int .i64 (w64 (q82 + (w64 (vt105 - vt30)))), .int .i64 vt30, .int .i64 (w64 (vk83 + 1)), .int .i64 m3, .bool vt10, .bool false, .int .i64 m3, .int .i64 vt22, .int .i64 vt22, .int .i64 vt30, .int .u64 seed1, .int .i64 n2, .int .i64 (w64 (4 * n2)), .int .u64 vt40, .int .i64 vt46, .int .i64 m3, .int .i64 (Int.tmod m3 16777216), (j58 0), (j58 1), (j58 2), .int .i64 vk83, .bool true, .int .i64 vk83, .int .i64 (w64 (vk83 + 1)), .int .i64 q82, .int .u64 seed1, .int .i64 n2, .int .i64 (w64 (4 * n2)), .int .i64 vk83, .int .i64 (w64 ((w64 (4 * n2)) + vk83)), .int .u64 vt99, .int .i64 vt30, .int .i64 (w64 (2 * vt30)), .int .i64 (w64 ((w64 (2 * vt30)) + 1)), .int .i64 vt105, .int .i64 vt30, .int .i64 (w64 (vt105 - vt30)), .int .i64 (w64 (q82 + (w64 (vt105 - vt30)))), undef, undef], []⟩) (by kernel_rfl) ?_
        refine wpList_nil ?_
        refine hK75 n76 _ _ (Nat.lt_succ_self _) ?_
        exact ⟨f107, (w64 (q82 + (w64 (vt105 - vt30)))), (w64 (vk83 + 1)), (fun i_ => [Value.int .i64 vk83, Value.bool true, Value.int .i64 vk83, Value.int .i64 (w64 (vk83 + 1)), Value.int .i64 q82, Value.int .u64 seed1, Value.int .i64 n2, Value.int .i64 (w64 (4 * n2)), Value.int .i64 vk83, Value.int .i64 (w64 ((w64 (4 * n2)) + vk83)), Value.int .u64 vt99, Value.int .i64 vt30, Value.int .i64 (w64 (2 * vt30)), Value.int .i64 (w64 ((w64 (2 * vt30)) + 1)), Value.int .i64 vt105, Value.int .i64 vt30, Value.int .i64 (w64 (vt105 - vt30)), Value.int .i64 (w64 (q82 + (w64 (vt105 - vt30))))].getD i_ undef), (L78.trans (L102.trans L108)), HS110, h, (by kernel_rfl)⟩
      · have c89 : ¬ (vk83 ≤ 3) := c89
        refine wpRwI 29 (x := (decide (vk83 ≤ 3))) (v := false) (by kernel_rfl) (decide_eq_false c89) ?_
        refine condF (by kernel_rfl) ?_
        refine wp_exit ?_
        refine hx68 _ _ ?_
        exact J118 f77 q82 (fun i_ => [Value.int .i64 vk83, Value.int .i64 vk83, Value.bool false, (j81 2), (j81 3), (j81 4), (j81 5), (j81 6), (j81 7), (j81 8), (j81 9), (j81 10), (j81 11), (j81 12), (j81 13), (j81 14), (j81 15), (j81 16), (j81 17)].getD i_ undef) W79 _ L78 h HS80 (by kernel_rfl)
    clear h; have h := hv60; clear hv60
    have hq_ := ite_some h; clear h; rcases hq_ with ⟨c53, h⟩ | ⟨c53, h⟩
    · have c53 : vt46 < (Int.tmod m3 16777216) := c53
      refine wpRwI 25 (x := (decide (vt46 < (Int.tmod m3 16777216)))) (v := true) (by kernel_rfl) (decide_eq_true c53) ?_
      refine condT (by kernel_rfl) ?_
      refine wp_region_lit ?_
      refine seqS3 (a' := ⟨#[.int .u64 seed1, .int .i64 n2, .int .i64 m3, undef, undef, undef, .int .i64 0, .int .i64 0, .int .i64 (w64 (vt22 + 1)), .int .i64 vt30, undef, .int .i64 m3, .bool vt10, .bool false, .int .i64 m3, .int .i64 vt22, .int .i64 vt22, .int .i64 vt30, .int .u64 seed1, .int .i64 n2, .int .i64 (w64 (4 * n2)), .int .u64 vt40, .int .i64 vt46, .int .i64 m3, .int .i64 (Int.tmod m3 16777216), .bool true, .int .i64 vt22, .int .i64 (w64 (vt22 + 1)), undef, undef, undef, undef, undef, undef, undef, undef, undef, undef, undef, undef, undef, undef, undef, undef, undef, undef, undef, undef], []⟩) (by kernel_rfl) ?_
      refine wpList_nil ?_
      exact J61 f48 (w64 (vt22 + 1)) (fun i_ => [Value.bool true, Value.int .i64 vt22, Value.int .i64 (w64 (vt22 + 1))].getD i_ undef) W50 _ (FM.le.refl _) h HS51 (by kernel_rfl)
    · have c53 : ¬ (vt46 < (Int.tmod m3 16777216)) := c53
      refine wpRwI 25 (x := (decide (vt46 < (Int.tmod m3 16777216)))) (v := false) (by kernel_rfl) (decide_eq_false c53) ?_
      refine condF (by kernel_rfl) ?_
      refine wp_skip ?_
      exact J61 f48 vt22 (fun i_ => [Value.bool false, undef, undef].getD i_ undef) W50 _ (FM.le.refl _) h HS51 (by kernel_rfl)

set_option maxRecDepth 100000 in
set_option maxHeartbeats 4000000 in
theorem quanta_Spread.calls (k : Nat)  (m1 : Int) {t w : World} {f : FM} {H : List Seg} (HS : St t w f (H)) (r1 : Int) (h : quanta_Spread k m1 = some r1) :
    Calls Try.prog 37 #[.int .i64 m1] w (fun e w' => ∃ (g : FM), e = .returned (Value.int .i64 r1) ∧ FM.le f g ∧ St t w' g (H)) := by
  unfold quanta_Spread at h
  refine enter Try.func37 rfl (tm := #[.int .i64 m1, undef, undef, undef, undef, undef, undef, undef, undef, undef]) (by kernel_rfl) ?_
  intro B hret hnor hnp
  refine wp_seq_k (fun K2 hK3 => ?_)
  refine wp_region_lit ?_
  refine seqS1 (a' := ⟨#[.int .i64 m1, undef, .int .i64 0, undef, undef, undef, undef, undef, undef, undef], []⟩) (by kernel_rfl) ?_
  refine wpList_nil ?_
  refine hK3 _ _ ?_
  refine wp_seq_k (fun K4 hK5 => ?_)
  refine wp_seq_k (fun K6 hK7 => ?_)
  refine wp_region_lit ?_
  have hq_ := bind_some h; clear h; obtain ⟨vt8, hc9, h⟩ := hq_
  refine seqL1 (by kernel_rfl) ?_
  refine seqK rfl (does_call (f := 35) (args := #[.int .i64 m1]) (by kernel_rfl) (quanta_valid.calls k m1 HS vt8 hc9) ?_)
  rintro _ W12 ⟨f10, rfl, L11, HS13⟩
  refine ⟨_, rfl, ?_⟩
  refine seqS1 (a' := ⟨#[.int .i64 m1, undef, .int .i64 0, .int .i64 m1, .bool vt8, .bool (!vt8), undef, undef, undef, undef], []⟩) (by kernel_rfl) ?_
  refine wpList_nil ?_
  refine hK7 _ _ ?_
  have hq_ := ite_some h; clear h; rcases hq_ with ⟨c15, h⟩ | ⟨c15, h⟩
  · have c15 : ¬ (vt8 = true) := c15
    refine wpRwI 5 (x := (!vt8)) (v := true) (by kernel_rfl) (congrArg (fun b_ => !b_) (show vt8 = false from (Bool.eq_false_iff.mpr c15)) : (!vt8) = true) ?_
    refine condT (by kernel_rfl) ?_
    refine wp_seq_k (fun K16 hK17 => ?_)
    refine wp_region_lit ?_
    refine seqS1 (a' := ⟨#[.int .i64 m1, undef, .int .i64 0, .int .i64 m1, .bool vt8, .bool true, undef, undef, undef, undef], []⟩) (by kernel_rfl) ?_
    refine wpList_nil ?_
    refine hK17 _ _ ?_
    refine wp_ret ?_
    refine hret _ _ ?_
    refine ends_still (v := Value.int .i64 0) (by kernel_rfl) (by kernel_rfl) ?_
    injection h with h
    subst h
    exact ⟨f10, rfl, L11, HS13⟩
  · have c15 : ¬ (¬ (vt8 = true)) := c15
    refine wpRwI 5 (x := (!vt8)) (v := false) (by kernel_rfl) (congrArg (fun b_ => !b_) (show vt8 = true from (Decidable.of_not_not c15)) : (!vt8) = false) ?_
    refine condF (by kernel_rfl) ?_
    refine wp_skip ?_
    refine hK5 _ _ ?_
    refine wp_seq_k (fun K18 hK19 => ?_)
    refine wp_region_lit ?_
    have hq_ := bind_some h; clear h; obtain ⟨vt20, hc21, h⟩ := hq_
    refine seqL1 (by kernel_rfl) ?_
    refine seqK rfl (does_call (f := 36) (args := #[.int .i64 m1]) (by kernel_rfl) (quanta_whole.calls k m1 HS13 vt20 hc21) ?_)
    rintro _ W24 ⟨f22, rfl, L23, HS25⟩
    refine ⟨_, rfl, ?_⟩
    have hq_ := bind_some h; clear h; obtain ⟨vt26, hc27, h⟩ := hq_
    refine seqK rfl (does_call (f := 38) (args := #[.int .i64 vt20]) (by kernel_rfl) (quanta_root.calls k vt20 HS25 vt26 hc27) ?_)
    rintro _ W30 ⟨f28, rfl, L29, HS31⟩
    refine ⟨_, rfl, ?_⟩
    refine seqS2 (a' := ⟨#[.int .i64 m1, undef, .int .i64 (w64 (3 * vt26)), .int .i64 m1, .bool vt8, .bool false, .int .i64 m1, .int .i64 vt20, .int .i64 vt26, .int .i64 (w64 (3 * vt26))], []⟩) (by kernel_rfl) ?_
    refine wpList_nil ?_
    refine hK19 _ _ ?_
    refine wp_ret ?_
    refine hret _ _ ?_
    refine ends_still (v := Value.int .i64 (w64 (3 * vt26))) (by kernel_rfl) (by kernel_rfl) ?_
    injection h with h
    subst h
    exact ⟨f28, rfl, (L11.trans (L23.trans L29)), HS31⟩

set_option maxRecDepth 100000 in
set_option maxHeartbeats 4000000 in
theorem quanta_Range.calls (k : Nat)  (m1 : Int) {t w : World} {f : FM} {H : List Seg} (HS : St t w f (H)) (r1 : S_Bound) (r2 : Int) (h : quanta_Range k m1 = some (r1, r2)) :
    Calls Try.prog 15 #[.int .i64 m1] w (fun e w' => ∃ (g : FM), e = .returned (Value.tuple #[.agg #[.int .i64 r1.Lo, .int .i64 r1.Hi, .bool r1.Unknown], .int .i64 r2]) ∧ FM.le f g ∧ St t w' g (H)) := by
  unfold quanta_Range at h
  refine enter Try.func15 rfl (tm := #[.int .i64 m1, undef, undef, undef, undef, undef, undef, undef, undef, undef, undef, undef, undef, undef, undef, undef, undef, undef, undef, undef, undef, undef, undef, undef, undef, undef, undef, undef, undef]) (by kernel_rfl) ?_
  intro B hret hnor hnp
  refine wp_seq_k (fun K2 hK3 => ?_)
  refine wp_region_lit ?_
  refine seqK rfl (does_alloc (z := Value.agg #[.int .i64 0, .int .i64 0, .bool false]) (cs := #[.int .i64 0, .int .i64 0, .bool false]) rfl (by kernel_rfl) rfl HS ?_)
  intro b4 W5 HS6
  refine seqS1 (a' := ⟨#[.int .i64 m1, undef, .pointer (some ⟨b4, 0, none⟩), .int .i64 0, undef, undef, undef, undef, undef, undef, undef, undef, undef, undef, undef, undef, undef, undef, undef, undef, undef, undef, undef, undef, undef, undef, undef, undef, undef], []⟩) (by kernel_rfl) ?_
  refine wpList_nil ?_
  refine hK3 _ _ ?_
  refine wp_seq_k (fun K8 hK9 => ?_)
  refine wp_seq_k (fun K10 hK11 => ?_)
  refine wp_region_lit ?_
  have hq_ := bind_some h; clear h; obtain ⟨vt12, hc13, h⟩ := hq_
  refine seqL1 (by kernel_rfl) ?_
  refine seqK rfl (does_call (f := 35) (args := #[.int .i64 m1]) (by kernel_rfl) (quanta_valid.calls k m1 HS6 vt12 hc13) ?_)
  rintro _ W16 ⟨f14, rfl, L15, HS17⟩
  refine ⟨_, rfl, ?_⟩
  refine seqS1 (a' := ⟨#[.int .i64 m1, undef, .pointer (some ⟨b4, 0, none⟩), .int .i64 0, undef, undef, .int .i64 m1, .bool vt12, .bool (!vt12), undef, undef, undef, undef, undef, undef, undef, undef, undef, undef, undef, undef, undef, undef, undef, undef, undef, undef, undef, undef], []⟩) (by kernel_rfl) ?_
  refine wpList_nil ?_
  refine hK11 _ _ ?_
  have hq_ := ite_some h; clear h; rcases hq_ with ⟨c19, h⟩ | ⟨c19, h⟩
  · have c19 : ¬ (vt12 = true) := c19
    refine wpRwI 8 (x := (!vt12)) (v := true) (by kernel_rfl) (congrArg (fun b_ => !b_) (show vt12 = false from (Bool.eq_false_iff.mpr c19)) : (!vt12) = true) ?_
    refine condT (by kernel_rfl) ?_
    refine wp_seq_k (fun K20 hK21 => ?_)
    refine wp_region_lit ?_
    refine seqL1 (by kernel_rfl) ?_
    refine seqK rfl (does_store (n := 3) (vs := [.int .i64 0, .int .i64 0, .bool false]) (cs' := #[.int .i64 0, .int .i64 0, .bool false]) rfl (by kernel_rfl) (by kernel_rfl : _ = Value.pointer (some ⟨b4, 0, none⟩)) (by kernel_rfl : _ = Value.agg #[.int .i64 0, .int .i64 0, .bool false]) rfl rfl (by intro u_ hu_; simp only [List.mem_cons, List.not_mem_nil, or_false] at hu_; rcases hu_ with rfl | rfl | rfl <;> rfl) HS17 (Nat.le_of_ble_eq_true rfl) (by kernel_rfl) ?_)
    intro W22 HS23
    refine seqS1 (a' := ⟨#[.int .i64 m1, undef, .pointer (some ⟨b4, 0, none⟩), .int .i64 4, undef, undef, .int .i64 m1, .bool vt12, .bool true, .agg #[.int .i64 0, .int .i64 0, .bool false], undef, undef, undef, undef, undef, undef, undef, undef, undef, undef, undef, undef, undef, undef, undef, undef, undef, undef, undef], []⟩) (by kernel_rfl) ?_
    refine wpList_nil ?_
    refine hK21 _ _ ?_
    refine wp_ret ?_
    refine hret _ _ ?_
    refine ends (v := Value.tuple #[.agg #[.int .i64 0, .int .i64 0, .bool false], .int .i64 4]) (results2 (q1 := .cell 2 24) (q2 := .tmp 3) (by kernel_rfl) (resN (n := 3) (cs := [.int .i64 0, .int .i64 0, .bool false]) (by kernel_rfl : _ = Value.pointer (some ⟨b4, 0, none⟩)) Try.underlying24 rfl (by kernel_rfl) rfl (HS23.cells 0 3 _ rfl)) (resT (by kernel_rfl : _ = Value.int .i64 4))) (by kernel_rfl) ?_
    have HS69 := HS23.drop
    injection h with h
    injection h with h0_ h
    subst h0_ h
    exact ⟨f14, rfl, L15, HS69⟩
  · have c19 : ¬ (¬ (vt12 = true)) := c19
    refine wpRwI 8 (x := (!vt12)) (v := false) (by kernel_rfl) (congrArg (fun b_ => !b_) (show vt12 = true from (Decidable.of_not_not c19)) : (!vt12) = false) ?_
    refine condF (by kernel_rfl) ?_
    refine wp_skip ?_
    refine hK9 _ _ ?_
    refine wp_seq_k (fun K24 hK25 => ?_)
    refine wp_region_lit ?_
    have hq_ := bind_some h; clear h; obtain ⟨vt26, hc27, h⟩ := hq_
    refine seqL1 (by kernel_rfl) ?_
    refine seqK rfl (does_call (f := 36) (args := #[.int .i64 m1]) (by kernel_rfl) (quanta_whole.calls k m1 HS17 vt26 hc27) ?_)
    rintro _ W30 ⟨f28, rfl, L29, HS31⟩
    refine ⟨_, rfl, ?_⟩
    have hq_ := bind_some h; clear h; obtain ⟨vt32, hc33, h⟩ := hq_
    refine seqL1 (by kernel_rfl) ?_
    refine seqK rfl (does_call (f := 36) (args := #[.int .i64 m1]) (by kernel_rfl) (quanta_whole.calls k m1 HS31 vt32 hc33) ?_)
    rintro _ W36 ⟨f34, rfl, L35, HS37⟩
    refine ⟨_, rfl, ?_⟩
    refine seqS2 (a' := ⟨#[.int .i64 m1, undef, .pointer (some ⟨b4, 0, none⟩), .int .i64 0, .int .i64 vt26, .int .i64 vt32, .int .i64 m1, .bool vt12, .bool false, undef, .int .i64 m1, .int .i64 vt26, .int .i64 m1, .int .i64 vt32, undef, undef, undef, undef, undef, undef, undef, undef, undef, undef, undef, undef, undef, undef, undef], []⟩) (by kernel_rfl) ?_
    refine wpList_nil ?_
    refine hK25 _ _ ?_
    refine wp_seq_k (fun K38 hK39 => ?_)
    refine wp_seq_k (fun K40 hK41 => ?_)
    refine wp_region_lit ?_
    refine seqS3 (a' := ⟨#[.int .i64 m1, undef, .pointer (some ⟨b4, 0, none⟩), .int .i64 0, .int .i64 vt26, .int .i64 vt32, .int .i64 m1, .bool vt12, .bool false, undef, .int .i64 m1, .int .i64 vt26, .int .i64 m1, .int .i64 vt32, .int .i64 m1, .int .i64 (Int.tmod m1 16777216), .bool (decide ((Int.tmod m1 16777216) > 0)), undef, undef, undef, undef, undef, undef, undef, undef, undef, undef, undef, undef], []⟩) (by kernel_rfl) ?_
    refine wpList_nil ?_
    refine hK41 _ _ ?_
    have hq_ := bind_some h; clear h; obtain ⟨v42, hv50, h⟩ := hq_
    have J51 : ∀ (f44 : FM) (up49 : Int) (j48 : Nat → Value) (W46 : World) (a_ : Act), FM.le f34 f44 → some (up49) = some v42 → St t W46 f44 ([(b4, .cells #[.int .i64 0, .int .i64 0, .bool false] 24 (0, 0))] :: H) → a_ = ⟨#[.int .i64 m1, undef, .pointer (some ⟨b4, 0, none⟩), .int .i64 0, .int .i64 vt26, .int .i64 up49, .int .i64 m1, .bool vt12, .bool false, undef, .int .i64 m1, .int .i64 vt26, .int .i64 m1, .int .i64 vt32, .int .i64 m1, .int .i64 (Int.tmod m1 16777216), (j48 0), (j48 1), (j48 2), undef, undef, undef, undef, undef, undef, undef, undef, undef, undef], []⟩ → K38 a_ W46 := by
      intro f44 up49 j48 W46 a_ L45 hj52 HS47  hfr_; subst hfr_
      injection hj52 with hj52; subst hj52; try dsimp only at h
      refine hK39 _ _ ?_
      refine wp_seq_k (fun K53 hK54 => ?_)
      refine wp_region_lit ?_
      have hq_ := bind_some h; clear h; obtain ⟨vt55, hc56, h⟩ := hq_
      refine seqL2 (by kernel_rfl) ?_
      refine seqK rfl (does_call (f := 37) (args := #[.int .i64 m1]) (by kernel_rfl) (quanta_Spread.calls k m1 HS47 vt55 hc56) ?_)
      rintro _ W59 ⟨f57, rfl, L58, HS60⟩
      refine ⟨_, rfl, ?_⟩
      have hq_ := bind_some h; clear h; obtain ⟨vt61, hc62, h⟩ := hq_
      refine seqL4 (by kernel_rfl) ?_
      refine seqK rfl (does_call (f := 37) (args := #[.int .i64 m1]) (by kernel_rfl) (quanta_Spread.calls k m1 HS60 vt61 hc62) ?_)
      rintro _ W65 ⟨f63, rfl, L64, HS66⟩
      refine ⟨_, rfl, ?_⟩
      refine seqL2 (by kernel_rfl) ?_
      refine seqK rfl (does_store (n := 3) (vs := [.int .i64 (mx 0 (w64 (vt26 - vt55))), .int .i64 (w64 (up49 + vt61)), .bool false]) (cs' := #[.int .i64 (mx 0 (w64 (vt26 - vt55))), .int .i64 (w64 (up49 + vt61)), .bool false]) rfl (by kernel_rfl) (by kernel_rfl : _ = Value.pointer (some ⟨b4, 0, none⟩)) (by kernel_rfl : _ = Value.agg #[.int .i64 (mx 0 (w64 (vt26 - vt55))), .int .i64 (w64 (up49 + vt61)), .bool false]) rfl rfl (by intro u_ hu_; simp only [List.mem_cons, List.not_mem_nil, or_false] at hu_; rcases hu_ with rfl | rfl | rfl <;> rfl) HS66 (Nat.le_of_ble_eq_true rfl) (by kernel_rfl) ?_)
      intro W67 HS68
      refine seqS1 (a' := ⟨#[.int .i64 m1, undef, .pointer (some ⟨b4, 0, none⟩), .int .i64 0, .int .i64 vt26, .int .i64 up49, .int .i64 m1, .bool vt12, .bool false, undef, .int .i64 m1, .int .i64 vt26, .int .i64 m1, .int .i64 vt32, .int .i64 m1, .int .i64 (Int.tmod m1 16777216), (j48 0), (j48 1), (j48 2), .int .i64 vt26, .int .i64 m1, .int .i64 vt55, .int .i64 (w64 (vt26 - vt55)), .int .i64 (mx 0 (w64 (vt26 - vt55))), .int .i64 up49, .int .i64 m1, .int .i64 vt61, .int .i64 (w64 (up49 + vt61)), .agg #[.int .i64 (mx 0 (w64 (vt26 - vt55))), .int .i64 (w64 (up49 + vt61)), .bool false]], []⟩) (by kernel_rfl) ?_
      refine wpList_nil ?_
      refine hK54 _ _ ?_
      refine wp_ret ?_
      refine hret _ _ ?_
      refine ends (v := Value.tuple #[.agg #[.int .i64 (mx 0 (w64 (vt26 - vt55))), .int .i64 (w64 (up49 + vt61)), .bool false], .int .i64 0]) (results2 (q1 := .cell 2 24) (q2 := .tmp 3) (by kernel_rfl) (resN (n := 3) (cs := [.int .i64 (mx 0 (w64 (vt26 - vt55))), .int .i64 (w64 (up49 + vt61)), .bool false]) (by kernel_rfl : _ = Value.pointer (some ⟨b4, 0, none⟩)) Try.underlying24 rfl (by kernel_rfl) rfl (HS68.cells 0 3 _ rfl)) (resT (by kernel_rfl : _ = Value.int .i64 0))) (by kernel_rfl) ?_
      have HS70 := HS68.drop
      injection h with h
      injection h with h0_ h
      subst h0_ h
      exact ⟨f63, rfl, (L15.trans (L29.trans (L35.trans (L45.trans (L58.trans L64))))), HS70⟩
    clear h; have h := hv50; clear hv50
    have hq_ := ite_some h; clear h; rcases hq_ with ⟨c43, h⟩ | ⟨c43, h⟩
    · have c43 : (Int.tmod m1 16777216) > 0 := c43
      refine wpRwI 16 (x := (decide ((Int.tmod m1 16777216) > 0))) (v := true) (by kernel_rfl) (decide_eq_true c43) ?_
      refine condT (by kernel_rfl) ?_
      refine wp_region_lit ?_
      refine seqS3 (a' := ⟨#[.int .i64 m1, undef, .pointer (some ⟨b4, 0, none⟩), .int .i64 0, .int .i64 vt26, .int .i64 (w64 (vt32 + 1)), .int .i64 m1, .bool vt12, .bool false, undef, .int .i64 m1, .int .i64 vt26, .int .i64 m1, .int .i64 vt32, .int .i64 m1, .int .i64 (Int.tmod m1 16777216), .bool true, .int .i64 vt32, .int .i64 (w64 (vt32 + 1)), undef, undef, undef, undef, undef, undef, undef, undef, undef, undef], []⟩) (by kernel_rfl) ?_
      refine wpList_nil ?_
      exact J51 f34 (w64 (vt32 + 1)) (fun i_ => [Value.bool true, Value.int .i64 vt32, Value.int .i64 (w64 (vt32 + 1))].getD i_ undef) W36 _ (FM.le.refl _) h HS37 (by kernel_rfl)
    · have c43 : ¬ ((Int.tmod m1 16777216) > 0) := c43
      refine wpRwI 16 (x := (decide ((Int.tmod m1 16777216) > 0))) (v := false) (by kernel_rfl) (decide_eq_false c43) ?_
      refine condF (by kernel_rfl) ?_
      refine wp_skip ?_
      exact J51 f34 vt32 (fun i_ => [Value.bool false, undef, undef].getD i_ undef) W36 _ (FM.le.refl _) h HS37 (by kernel_rfl)

set_option maxRecDepth 100000 in
set_option maxHeartbeats 4000000 in
theorem spykeep3_drawn.calls (k : Nat)   {t w : World} {f : FM} {H : List Seg} (HS : St t w f (H)) (r1 : Bool) (h : spykeep3_drawn k = some r1) :
    Calls Try.prog 12 #[] w (fun e w' => ∃ (g : FM), e = .returned (Value.bool r1) ∧ FM.le f g ∧ St t w' g (H)) := by
  unfold spykeep3_drawn at h
  refine enter Try.func12 rfl (tm := #[undef, undef, undef, undef, undef, undef, undef, undef, undef, undef, undef, undef, undef, undef, undef, undef, undef, undef, undef, undef, undef, undef, undef, undef, undef, undef, undef, undef]) (by kernel_rfl) ?_
  intro B hret hnor hnp
  refine wp_seq_k (fun K1 hK2 => ?_)
  refine wp_region_lit ?_
  refine seqS1 (a' := ⟨#[.bool false, undef, undef, undef, undef, undef, undef, undef, undef, undef, undef, undef, undef, undef, undef, undef, undef, undef, undef, undef, undef, undef, undef, undef, undef, undef, undef, undef], []⟩) (by kernel_rfl) ?_
  refine wpList_nil ?_
  refine hK2 _ _ ?_
  refine wp_seq_k (fun K3 hK4 => ?_)
  refine wp_region_lit ?_
  have hq_ := bind_some h; clear h; obtain ⟨⟨vt5, vt6⟩, hc7, h⟩ := hq_
  refine seqK rfl (does_call (f := 16) (args := #[.int .u64 5, .int .i64 5, .int .i64 0]) (by kernel_rfl) (quanta_Draw.calls k 5 5 0 HS vt5 vt6 hc7) ?_)
  rintro _ W10 ⟨f8, rfl, L9, HS11⟩
  refine ⟨_, rfl, ?_⟩
  refine seqS5 (a' := ⟨#[.bool false, .int .i64 vt5, .int .i64 vt6, undef, undef, .tuple #[.int .i64 vt5, .int .i64 vt6], .tuple #[.int .i64 vt5, .int .i64 vt6], .int .i64 vt5, .int .i64 vt6, undef, undef, undef, undef, undef, undef, undef, undef, undef, undef, undef, undef, undef, undef, undef, undef, undef, undef, undef], []⟩) (by kernel_rfl) ?_
  refine wpList_nil ?_
  refine hK4 _ _ ?_
  refine wp_seq_k (fun K12 hK13 => ?_)
  refine wp_region_lit ?_
  have hq_ := bind_some h; clear h; obtain ⟨⟨vt14, vt15⟩, hc16, h⟩ := hq_
  refine seqK rfl (does_call (f := 15) (args := #[.int .i64 419430400]) (by kernel_rfl) (quanta_Range.calls k 419430400 HS11 vt14 vt15 hc16) ?_)
  rintro _ W19 ⟨f17, rfl, L18, HS20⟩
  refine ⟨_, rfl, ?_⟩
  refine seqL3 (by kernel_rfl) ?_
  refine seqK rfl (does_alloc (z := Value.agg #[.int .i64 0, .int .i64 0, .bool false]) (cs := #[.int .i64 0, .int .i64 0, .bool false]) rfl (by kernel_rfl) rfl HS20 ?_)
  intro b21 W22 HS23
  refine seqK rfl (does_store (n := 3) (vs := [.int .i64 vt14.Lo, .int .i64 vt14.Hi, .bool vt14.Unknown]) (cs' := #[.int .i64 vt14.Lo, .int .i64 vt14.Hi, .bool vt14.Unknown]) rfl (by kernel_rfl) (by kernel_rfl : _ = Value.pointer (some ⟨b21, 0, none⟩)) (by kernel_rfl : _ = Value.agg #[.int .i64 vt14.Lo, .int .i64 vt14.Hi, .bool vt14.Unknown]) rfl rfl (by intro u_ hu_; simp only [List.mem_cons, List.not_mem_nil, or_false] at hu_; rcases hu_ with rfl | rfl | rfl <;> rfl) HS23 (Nat.le_of_ble_eq_true rfl) (by kernel_rfl) ?_)
  intro W25 HS26
  refine seqS1 (a' := ⟨#[.bool false, .int .i64 vt5, .int .i64 vt6, .pointer (some ⟨b21, 0, none⟩), .int .i64 vt15, .tuple #[.int .i64 vt5, .int .i64 vt6], .tuple #[.int .i64 vt5, .int .i64 vt6], .int .i64 vt5, .int .i64 vt6, .tuple #[.agg #[.int .i64 vt14.Lo, .int .i64 vt14.Hi, .bool vt14.Unknown], .int .i64 vt15], .tuple #[.agg #[.int .i64 vt14.Lo, .int .i64 vt14.Hi, .bool vt14.Unknown], .int .i64 vt15], .agg #[.int .i64 vt14.Lo, .int .i64 vt14.Hi, .bool vt14.Unknown], .int .i64 vt15, undef, undef, undef, undef, undef, undef, undef, undef, undef, undef, undef, undef, undef, undef, undef], []⟩) (by kernel_rfl) ?_
  refine wpList_nil ?_
  refine hK13 _ _ ?_
  refine wp_seq_k (fun K27 hK28 => ?_)
  refine wp_region_lit ?_
  refine seqS3 (a' := ⟨#[.bool false, .int .i64 vt5, .int .i64 vt6, .pointer (some ⟨b21, 0, none⟩), .int .i64 vt15, .tuple #[.int .i64 vt5, .int .i64 vt6], .tuple #[.int .i64 vt5, .int .i64 vt6], .int .i64 vt5, .int .i64 vt6, .tuple #[.agg #[.int .i64 vt14.Lo, .int .i64 vt14.Hi, .bool vt14.Unknown], .int .i64 vt15], .tuple #[.agg #[.int .i64 vt14.Lo, .int .i64 vt14.Hi, .bool vt14.Unknown], .int .i64 vt15], .agg #[.int .i64 vt14.Lo, .int .i64 vt14.Hi, .bool vt14.Unknown], .int .i64 vt15, .int .i64 vt6, .bool (vt6 == 0), .bool (vt6 == 0), undef, undef, undef, undef, undef, undef, undef, undef, undef, undef, undef, undef], []⟩) (by kernel_rfl) ?_
  have hq_ := ite_some h; clear h; rcases hq_ with ⟨c29, h⟩ | ⟨c29, h⟩
  · have c29 : vt6 = 0 := c29
    refine seqRwI 14 (x := (vt6 == 0)) (v := true) (by kernel_rfl) (beq_iff_eq.mpr c29) ?_
    refine seqRwI 15 (x := (vt6 == 0)) (v := true) (by kernel_rfl) (beq_iff_eq.mpr c29) ?_
    refine seqS4 (a' := ⟨#[.bool false, .int .i64 vt5, .int .i64 vt6, .pointer (some ⟨b21, 0, none⟩), .int .i64 vt15, .tuple #[.int .i64 vt5, .int .i64 vt6], .tuple #[.int .i64 vt5, .int .i64 vt6], .int .i64 vt5, .int .i64 vt6, .tuple #[.agg #[.int .i64 vt14.Lo, .int .i64 vt14.Hi, .bool vt14.Unknown], .int .i64 vt15], .tuple #[.agg #[.int .i64 vt14.Lo, .int .i64 vt14.Hi, .bool vt14.Unknown], .int .i64 vt15], .agg #[.int .i64 vt14.Lo, .int .i64 vt14.Hi, .bool vt14.Unknown], .int .i64 vt15, .int .i64 vt6, .bool true, .bool true, .int .i64 vt15, .bool (vt15 == 0), .bool (vt15 == 0), .bool (vt15 == 0), undef, undef, undef, undef, undef, undef, undef, undef], []⟩) (by kernel_rfl) ?_
    have hq_ := ite_some h; clear h; rcases hq_ with ⟨c30, h⟩ | ⟨c30, h⟩
    · have c30 : vt15 = 0 := c30
      refine seqRwI 17 (x := (vt15 == 0)) (v := true) (by kernel_rfl) (beq_iff_eq.mpr c30) ?_
      refine seqRwI 18 (x := (vt15 == 0)) (v := true) (by kernel_rfl) (beq_iff_eq.mpr c30) ?_
      refine seqRwI 19 (x := (vt15 == 0)) (v := true) (by kernel_rfl) (beq_iff_eq.mpr c30) ?_
      refine seqS4 (a' := ⟨#[.bool false, .int .i64 vt5, .int .i64 vt6, .pointer (some ⟨b21, 0, none⟩), .int .i64 vt15, .tuple #[.int .i64 vt5, .int .i64 vt6], .tuple #[.int .i64 vt5, .int .i64 vt6], .int .i64 vt5, .int .i64 vt6, .tuple #[.agg #[.int .i64 vt14.Lo, .int .i64 vt14.Hi, .bool vt14.Unknown], .int .i64 vt15], .tuple #[.agg #[.int .i64 vt14.Lo, .int .i64 vt14.Hi, .bool vt14.Unknown], .int .i64 vt15], .agg #[.int .i64 vt14.Lo, .int .i64 vt14.Hi, .bool vt14.Unknown], .int .i64 vt15, .int .i64 vt6, .bool true, .bool true, .int .i64 vt15, .bool true, .bool true, .bool true, .int .i64 vt5, .bool (vt5 == 0), .bool (vt5 == 0), .bool (vt5 == 0), undef, undef, undef, undef], []⟩) (by kernel_rfl) ?_
      have hq_ := ite_some h; clear h; rcases hq_ with ⟨c31, h⟩ | ⟨c31, h⟩
      · have c31 : vt5 = 0 := c31
        refine seqRwI 21 (x := (vt5 == 0)) (v := true) (by kernel_rfl) (beq_iff_eq.mpr c31) ?_
        refine seqRwI 22 (x := (vt5 == 0)) (v := true) (by kernel_rfl) (beq_iff_eq.mpr c31) ?_
        refine seqRwI 23 (x := (vt5 == 0)) (v := true) (by kernel_rfl) (beq_iff_eq.mpr c31) ?_
        refine seqG (by kernel_rfl) (does_run (run_loadN (n := 3) rfl Try.underlying24 rfl (by kernel_rfl) (by kernel_rfl : _ = Value.pointer (some ⟨b21, 0, none⟩)) (cs := [.int .i64 vt14.Lo, .int .i64 vt14.Hi, .bool vt14.Unknown]) rfl (HS26.cells 0 3 _ rfl)) ?_)
        refine seqL1 (by kernel_rfl) ?_
        refine seqG (by kernel_rfl) (does_run (run_eqS (b := ((vt14.Lo == 10) && ((vt14.Hi == 40) && ((vt14.Unknown == false) && true)))) rfl (by kernel_rfl : _ = Value.agg #[.int .i64 vt14.Lo, .int .i64 vt14.Hi, .bool vt14.Unknown]) (by kernel_rfl : _ = Value.agg #[.int .i64 10, .int .i64 40, .bool false]) (by kernel_rfl) (by kernel_rfl) W25) ?_)
        refine seqS2 (a' := ⟨#[.bool ((vt14.Lo == 10) && ((vt14.Hi == 40) && ((vt14.Unknown == false) && true))), .int .i64 vt5, .int .i64 vt6, .pointer (some ⟨b21, 0, none⟩), .int .i64 vt15, .tuple #[.int .i64 vt5, .int .i64 vt6], .tuple #[.int .i64 vt5, .int .i64 vt6], .int .i64 vt5, .int .i64 vt6, .tuple #[.agg #[.int .i64 vt14.Lo, .int .i64 vt14.Hi, .bool vt14.Unknown], .int .i64 vt15], .tuple #[.agg #[.int .i64 vt14.Lo, .int .i64 vt14.Hi, .bool vt14.Unknown], .int .i64 vt15], .agg #[.int .i64 vt14.Lo, .int .i64 vt14.Hi, .bool vt14.Unknown], .int .i64 vt15, .int .i64 vt6, .bool true, .bool true, .int .i64 vt15, .bool true, .bool true, .bool true, .int .i64 vt5, .bool true, .bool true, .bool true, .agg #[.int .i64 vt14.Lo, .int .i64 vt14.Hi, .bool vt14.Unknown], .agg #[.int .i64 10, .int .i64 40, .bool false], .bool ((vt14.Lo == 10) && ((vt14.Hi == 40) && ((vt14.Unknown == false) && true))), .bool ((vt14.Lo == 10) && ((vt14.Hi == 40) && ((vt14.Unknown == false) && true)))], []⟩) (by kernel_rfl) ?_
        refine wpList_nil ?_
        refine hK28 _ _ ?_
        refine wp_ret ?_
        refine hret _ _ ?_
        refine ends_still (v := Value.bool ((vt14.Lo == 10) && ((vt14.Hi == 40) && ((vt14.Unknown == false) && true)))) (by kernel_rfl) (by kernel_rfl) ?_
        have HS32 := HS26.drop
        injection h with h
        subst h
        exact ⟨f17, rfl, (L9.trans L18), HS32⟩
      · have c31 : ¬ (vt5 = 0) := c31
        refine seqRwI 21 (x := (vt5 == 0)) (v := false) (by kernel_rfl) (beq_eq_false_iff_ne.mpr c31) ?_
        refine seqRwI 22 (x := (vt5 == 0)) (v := false) (by kernel_rfl) (beq_eq_false_iff_ne.mpr c31) ?_
        refine seqRwI 23 (x := (vt5 == 0)) (v := false) (by kernel_rfl) (beq_eq_false_iff_ne.mpr c31) ?_
        refine seqS5 (a' := ⟨#[.bool false, .int .i64 vt5, .int .i64 vt6, .pointer (some ⟨b21, 0, none⟩), .int .i64 vt15, .tuple #[.int .i64 vt5, .int .i64 vt6], .tuple #[.int .i64 vt5, .int .i64 vt6], .int .i64 vt5, .int .i64 vt6, .tuple #[.agg #[.int .i64 vt14.Lo, .int .i64 vt14.Hi, .bool vt14.Unknown], .int .i64 vt15], .tuple #[.agg #[.int .i64 vt14.Lo, .int .i64 vt14.Hi, .bool vt14.Unknown], .int .i64 vt15], .agg #[.int .i64 vt14.Lo, .int .i64 vt14.Hi, .bool vt14.Unknown], .int .i64 vt15, .int .i64 vt6, .bool true, .bool true, .int .i64 vt15, .bool true, .bool true, .bool true, .int .i64 vt5, .bool false, .bool false, .bool false, undef, undef, undef, .bool false], []⟩) (by kernel_rfl) ?_
        refine wpList_nil ?_
        refine hK28 _ _ ?_
        refine wp_ret ?_
        refine hret _ _ ?_
        refine ends_still (v := Value.bool false) (by kernel_rfl) (by kernel_rfl) ?_
        have HS33 := HS26.drop
        injection h with h
        subst h
        exact ⟨f17, rfl, (L9.trans L18), HS33⟩
    · have c30 : ¬ (vt15 = 0) := c30
      refine seqRwI 17 (x := (vt15 == 0)) (v := false) (by kernel_rfl) (beq_eq_false_iff_ne.mpr c30) ?_
      refine seqRwI 18 (x := (vt15 == 0)) (v := false) (by kernel_rfl) (beq_eq_false_iff_ne.mpr c30) ?_
      refine seqRwI 19 (x := (vt15 == 0)) (v := false) (by kernel_rfl) (beq_eq_false_iff_ne.mpr c30) ?_
      refine seqS9 (a' := ⟨#[.bool false, .int .i64 vt5, .int .i64 vt6, .pointer (some ⟨b21, 0, none⟩), .int .i64 vt15, .tuple #[.int .i64 vt5, .int .i64 vt6], .tuple #[.int .i64 vt5, .int .i64 vt6], .int .i64 vt5, .int .i64 vt6, .tuple #[.agg #[.int .i64 vt14.Lo, .int .i64 vt14.Hi, .bool vt14.Unknown], .int .i64 vt15], .tuple #[.agg #[.int .i64 vt14.Lo, .int .i64 vt14.Hi, .bool vt14.Unknown], .int .i64 vt15], .agg #[.int .i64 vt14.Lo, .int .i64 vt14.Hi, .bool vt14.Unknown], .int .i64 vt15, .int .i64 vt6, .bool true, .bool true, .int .i64 vt15, .bool false, .bool false, .bool false, undef, undef, .bool false, .bool false, undef, undef, undef, .bool false], []⟩) (by kernel_rfl) ?_
      refine wpList_nil ?_
      refine hK28 _ _ ?_
      refine wp_ret ?_
      refine hret _ _ ?_
      refine ends_still (v := Value.bool false) (by kernel_rfl) (by kernel_rfl) ?_
      have HS34 := HS26.drop
      injection h with h
      subst h
      exact ⟨f17, rfl, (L9.trans L18), HS34⟩
  · have c29 : ¬ (vt6 = 0) := c29
    refine seqRwI 14 (x := (vt6 == 0)) (v := false) (by kernel_rfl) (beq_eq_false_iff_ne.mpr c29) ?_
    refine seqRwI 15 (x := (vt6 == 0)) (v := false) (by kernel_rfl) (beq_eq_false_iff_ne.mpr c29) ?_
    refine seqS13 (a' := ⟨#[.bool false, .int .i64 vt5, .int .i64 vt6, .pointer (some ⟨b21, 0, none⟩), .int .i64 vt15, .tuple #[.int .i64 vt5, .int .i64 vt6], .tuple #[.int .i64 vt5, .int .i64 vt6], .int .i64 vt5, .int .i64 vt6, .tuple #[.agg #[.int .i64 vt14.Lo, .int .i64 vt14.Hi, .bool vt14.Unknown], .int .i64 vt15], .tuple #[.agg #[.int .i64 vt14.Lo, .int .i64 vt14.Hi, .bool vt14.Unknown], .int .i64 vt15], .agg #[.int .i64 vt14.Lo, .int .i64 vt14.Hi, .bool vt14.Unknown], .int .i64 vt15, .int .i64 vt6, .bool false, .bool false, undef, undef, .bool false, .bool false, undef, undef, .bool false, .bool false, undef, undef, undef, .bool false], []⟩) (by kernel_rfl) ?_
    refine wpList_nil ?_
    refine hK28 _ _ ?_
    refine wp_ret ?_
    refine hret _ _ ?_
    refine ends_still (v := Value.bool false) (by kernel_rfl) (by kernel_rfl) ?_
    have HS35 := HS26.drop
    injection h with h
    subst h
    exact ⟨f17, rfl, (L9.trans L18), HS35⟩

set_option maxRecDepth 100000 in
set_option maxHeartbeats 4000000 in
theorem slices_Equal_int.calls (k : Nat) (A2 : Option Addr) (c3 : Nat) (A6 : Option Addr) (c7 : Nat) (s11 : List Int) (s25 : List Int) {t w : World} {f : FM} {H : List Seg} (HS : St t w f (H)) (HR4 : SlR (tInt .i64) f A2 c3 s11) (HR8 : SlR (tInt .i64) f A6 c7 s25) (r1 : Bool) (h : slices_Equal_int k s11 s25 = some r1) :
    Calls Try.prog 29 #[.slice A2 s11.length c3, .slice A6 s25.length c7] w (fun e w' => ∃ (g : FM), e = .returned (Value.bool r1) ∧ FM.le f g ∧ St t w' g (H)) := by
  unfold slices_Equal_int at h
  refine enter Try.func29 rfl (tm := #[.slice A2 s11.length c3, .slice A6 s25.length c7, undef, undef, undef, undef, undef, undef, undef, undef, undef, undef, undef, undef, undef, undef, undef, undef, undef, undef, undef, undef, undef, undef, undef, undef]) (by kernel_rfl) ?_
  intro B hret hnor hnp
  refine wp_seq_k (fun K9 hK10 => ?_)
  refine wp_region_lit ?_
  refine seqS1 (a' := ⟨#[.slice A2 s11.length c3, .slice A6 s25.length c7, undef, undef, .bool false, undef, undef, undef, undef, undef, undef, undef, undef, undef, undef, undef, undef, undef, undef, undef, undef, undef, undef, undef, undef, undef], []⟩) (by kernel_rfl) ?_
  refine wpList_nil ?_
  refine hK10 _ _ ?_
  refine wp_seq_k (fun K11 hK12 => ?_)
  refine wp_seq_k (fun K13 hK14 => ?_)
  refine wp_region_lit ?_
  refine seqS5 (a' := ⟨#[.slice A2 s11.length c3, .slice A6 s25.length c7, undef, undef, .bool false, undef, .slice A2 s11.length c3, .int .i64 (s11.length : Int), .slice A6 s25.length c7, .int .i64 (s25.length : Int), .bool ((s11.length : Int) != (s25.length : Int)), undef, undef, undef, undef, undef, undef, undef, undef, undef, undef, undef, undef, undef, undef, undef], []⟩) (by kernel_rfl) ?_
  refine wpList_nil ?_
  refine hK14 _ _ ?_
  have hq_ := ite_some h; clear h; rcases hq_ with ⟨c16, h⟩ | ⟨c16, h⟩
  · have c16 : (s11.length : Int) ≠ (s25.length : Int) := c16
    refine wpRwI 10 (x := ((s11.length : Int) != (s25.length : Int))) (v := true) (by kernel_rfl) (bne_iff_ne.mpr c16) ?_
    refine condT (by kernel_rfl) ?_
    refine wp_seq_k (fun K17 hK18 => ?_)
    refine wp_region_lit ?_
    refine seqS1 (a' := ⟨#[.slice A2 s11.length c3, .slice A6 s25.length c7, undef, undef, .bool false, undef, .slice A2 s11.length c3, .int .i64 (s11.length : Int), .slice A6 s25.length c7, .int .i64 (s25.length : Int), .bool true, undef, undef, undef, undef, undef, undef, undef, undef, undef, undef, undef, undef, undef, undef, undef], []⟩) (by kernel_rfl) ?_
    refine wpList_nil ?_
    refine hK18 _ _ ?_
    refine wp_ret ?_
    refine hret _ _ ?_
    refine ends_still (v := Value.bool false) (by kernel_rfl) (by kernel_rfl) ?_
    injection h with h
    subst h
    exact ⟨f, rfl, FM.le.refl _, HS⟩
  · have c16 : ¬ ((s11.length : Int) ≠ (s25.length : Int)) := c16
    refine wpRwI 10 (x := ((s11.length : Int) != (s25.length : Int))) (v := false) (by kernel_rfl) (bne_eq_false_iff_eq.mpr (Decidable.of_not_not c16)) ?_
    refine condF (by kernel_rfl) ?_
    refine wp_skip ?_
    refine hK12 _ _ ?_
    refine wp_seq_k (fun K19 hK20 => ?_)
    refine wp_seq_k (fun K21 hK22 => ?_)
    refine wp_region_lit ?_
    refine seqS3 (a' := ⟨#[.slice A2 s11.length c3, .slice A6 s25.length c7, undef, undef, .bool false, undef, .slice A2 s11.length c3, .int .i64 (s11.length : Int), .slice A6 s25.length c7, .int .i64 (s25.length : Int), .bool false, .slice A2 s11.length c3, .int .i64 (s11.length : Int), .int .i64 0, undef, undef, undef, undef, undef, undef, undef, undef, undef, undef, undef, undef], []⟩) (by kernel_rfl) ?_
    refine wpList_nil ?_
    refine hK22 _ _ ?_
    refine blockK (fun B23 hx24 hn25 hr26 ho27 hp28 => ?_)
    have hq_ := bind_some h; clear h; obtain ⟨o29, hv83, h⟩ := hq_
    have JR85 : ∀ z_, some (Sum.inl z_) = some o29 → some z_ = some r1 := by
      intro z_ e_; injection e_ with e_; subst e_; exact h
    have J84 : ∀ (f78 : FM) (j82 : Nat → Value) (W80 : World) (a_ : Act), FM.le f f78 → some (Sum.inr ()) = some o29 → St t W80 f78 (H) → a_ = ⟨#[.slice A2 s11.length c3, .slice A6 s25.length c7, undef, undef, (j82 0), (j82 1), .slice A2 s11.length c3, .int .i64 (s11.length : Int), .slice A6 s25.length c7, .int .i64 (s25.length : Int), .bool false, .slice A2 s11.length c3, .int .i64 (s11.length : Int), (j82 2), (j82 3), (j82 4), (j82 5), (j82 6), (j82 7), (j82 8), (j82 9), (j82 10), (j82 11), (j82 12), (j82 13), (j82 14)], []⟩ → K19 a_ W80 := by
      intro f78 j82 W80 a_ L79 hj86 HS81  hfr_; subst hfr_
      injection hj86 with hj86; subst hj86; try dsimp only at h
      simp only [Sum.elim_inr] at h
      refine hK20 _ _ ?_
      refine wp_seq_k (fun K87 hK88 => ?_)
      refine wp_region_lit ?_
      refine seqS1 (a' := ⟨#[.slice A2 s11.length c3, .slice A6 s25.length c7, undef, undef, .bool true, (j82 1), .slice A2 s11.length c3, .int .i64 (s11.length : Int), .slice A6 s25.length c7, .int .i64 (s25.length : Int), .bool false, .slice A2 s11.length c3, .int .i64 (s11.length : Int), (j82 2), (j82 3), (j82 4), (j82 5), (j82 6), (j82 7), (j82 8), (j82 9), (j82 10), (j82 11), (j82 12), (j82 13), (j82 14)], []⟩) (by kernel_rfl) ?_
      refine wpList_nil ?_
      refine hK88 _ _ ?_
      refine wp_ret ?_
      refine hret _ _ ?_
      refine ends_still (v := Value.bool true) (by kernel_rfl) (by kernel_rfl) ?_
      injection h with h
      subst h
      exact ⟨f78, rfl, L79, HS81⟩
    clear h; have h := hv83; clear hv83
    refine loopK (fun n_ a_ w_ => ∃ (f33 : FM) (x38 : Int) (j37 : Nat → Value), FM.le f f33 ∧ St t w_ f33 (H) ∧ slices_Equal_int.l0 k s11 s25 n_ x38 = some o29 ∧ a_ = ⟨#[.slice A2 s11.length c3, .slice A6 s25.length c7, undef, undef, (j37 0), (j37 1), .slice A2 s11.length c3, .int .i64 (s11.length : Int), .slice A6 s25.length c7, .int .i64 (s25.length : Int), .bool false, .slice A2 s11.length c3, .int .i64 (s11.length : Int), .int .i64 x38, (j37 2), (j37 3), (j37 4), (j37 5), (j37 6), (j37 7), (j37 8), (j37 9), (j37 10), (j37 11), (j37 12), (j37 13)], []⟩) k ⟨f, 0, (fun i_ => [Value.bool false, undef, undef, undef, undef, undef, undef, undef, undef, undef, undef, undef, undef, undef].getD i_ undef), (FM.le.refl _), HS, h, (by kernel_rfl)⟩ ?_
    clear h
    rintro n32 _ W35 ⟨f33, x38, j37, L34, HS36, h, rfl⟩ K30 hK31
    obtain _ | n32 := n32
    · exact nomatch h
    simp only [slices_Equal_int.l0] at h
    refine wp_seq_k (fun K39 hK40 => ?_)
    refine wp_region_lit ?_
    refine seqS1 (a' := ⟨#[.slice A2 s11.length c3, .slice A6 s25.length c7, undef, undef, (j37 0), (j37 1), .slice A2 s11.length c3, .int .i64 (s11.length : Int), .slice A6 s25.length c7, .int .i64 (s25.length : Int), .bool false, .slice A2 s11.length c3, .int .i64 (s11.length : Int), .int .i64 x38, .bool (decide (x38 < (s11.length : Int))), (j37 3), (j37 4), (j37 5), (j37 6), (j37 7), (j37 8), (j37 9), (j37 10), (j37 11), (j37 12), (j37 13)], []⟩) (by kernel_rfl) ?_
    refine wpList_nil ?_
    refine hK40 _ _ ?_
    refine wp_seq_k (fun K41 hK42 => ?_)
    have hq_ := ite_some h; clear h; rcases hq_ with ⟨c44, h⟩ | ⟨c44, h⟩
    · have c44 : x38 < (s11.length : Int) := c44
      refine wpRwI 14 (x := (decide (x38 < (s11.length : Int)))) (v := true) (by kernel_rfl) (decide_eq_true c44) ?_
      refine condT (by kernel_rfl) ?_
      refine wp_skip ?_
      refine hK42 _ _ ?_
      refine wp_seq_k (fun K45 hK46 => ?_)
      refine blockK (fun B47 hx48 hn49 hr50 ho51 hp52 => ?_)
      refine wp_seq_k (fun K54 hK55 => ?_)
      refine wp_region_lit ?_
      refine seqS2 (a' := ⟨#[.slice A2 s11.length c3, .slice A6 s25.length c7, undef, undef, (j37 0), .int .i64 x38, .slice A2 s11.length c3, .int .i64 (s11.length : Int), .slice A6 s25.length c7, .int .i64 (s25.length : Int), .bool false, .slice A2 s11.length c3, .int .i64 (s11.length : Int), .int .i64 x38, .bool true, .int .i64 x38, (j37 4), (j37 5), (j37 6), (j37 7), (j37 8), (j37 9), (j37 10), (j37 11), (j37 12), (j37 13)], []⟩) (by kernel_rfl) ?_
      refine wpList_nil ?_
      refine hK55 _ _ ?_
      refine wp_seq_k (fun K56 hK57 => ?_)
      refine heldG (S := Sg t f33 (H) []) (n := 9) (by kernel_rfl) rfl HS36 ?_
      intro W58 HS59
      have hq_ := guard_some h; clear h; obtain ⟨c60, h⟩ := hq_
      have c60 : 0 ≤ x38 := c60
      obtain ⟨b64, of65, cs61, hA66, hr62, hc63⟩ := (HR4.mono L34).at (i := x38) c60 c44
      obtain rfl := hr62
      refine takeG [0, 1] (n := 9) (fuel := 7) (l' := #[true, true, false, false, false, false, false, false, false]) (a' := ⟨#[.slice A2 s11.length c3, .slice A6 s25.length c7, undef, undef, (j37 0), .int .i64 x38, .slice A2 s11.length c3, .int .i64 (s11.length : Int), .slice A6 s25.length c7, .int .i64 (s25.length : Int), .bool false, .slice A2 s11.length c3, .int .i64 (s11.length : Int), .int .i64 x38, .bool true, .int .i64 x38, .slice A2 s11.length c3, .int .i64 x38, (j37 6), (j37 7), (j37 8), (j37 9), (j37 10), (j37 11), (j37 12), (j37 13)], []⟩) rfl (by kernel_rfl) (by kernel_rfl) (by kernel_rfl) (fun ch_ a_ w_ q_ => (fun ch_ a_ w_ q_ => hnp ch_ a_ w_ (hp28 ch_ a_ w_ q_)) ch_ a_ w_ (hp52 ch_ a_ w_ q_)) (Sg.g0 (Sx.of [] (FM.le.refl _) HS59)) ?_
      refine takeGQ 2 [] rfl (by kernel_rfl) (by kernel_rfl) (by kernel_rfl) (by kernel_rfl) (by kernel_rfl) (by kernel_rfl) (fun ch_ a_ w_ q_ => (fun ch_ a_ w_ q_ => hnp ch_ a_ w_ (hp28 ch_ a_ w_ q_)) ch_ a_ w_ (hp52 ch_ a_ w_ q_)) (Sg.g0 (Sx.of [] (FM.le.refl _) HS59)) (fun w_ hw_ => by obtain ⟨g_, hl_, hS_⟩ := hw_.st; exact run_indexE hA66 (sz := 1) rfl Try.underlying40 (by kernel_rfl) (by kernel_rfl : _ = Value.slice A2 s11.length c3) (by kernel_rfl : _ = Value.int .i64 x38) c60 c44 w_) ?_
      refine takeGQ 3 [] rfl (by kernel_rfl) (by kernel_rfl) (by kernel_rfl) (by kernel_rfl) (by kernel_rfl) (by kernel_rfl) (fun ch_ a_ w_ q_ => (fun ch_ a_ w_ q_ => hnp ch_ a_ w_ (hp28 ch_ a_ w_ q_)) ch_ a_ w_ (hp52 ch_ a_ w_ q_)) (Sg.g0 (Sx.of [] (FM.le.refl _) HS59)) (fun w_ hw_ => by obtain ⟨g_, hl_, hS_⟩ := hw_.st; exact run_load rfl Try.underlying3 rfl (by kernel_rfl : _ = Value.pointer (some ⟨b64, of65 + (x38 : Int).toNat * 1, none⟩)) ((hc63 hl_ hS_) 0 (by decide))) ?_
      have hq_ := guard_some h; clear h; obtain ⟨c67, h⟩ := hq_
      have c67 : x38 < (s25.length : Int) := c67
      obtain ⟨b71, of72, cs68, hA73, hr69, hc70⟩ := (HR8.mono L34).at (i := x38) c60 c67
      obtain rfl := hr69
      refine takeG [4, 5] (n := 5) (fuel := 3) (l' := #[true, true, true, true, true, true, false, false, false]) (a' := ⟨#[.slice A2 s11.length c3, .slice A6 s25.length c7, undef, undef, (j37 0), .int .i64 x38, .slice A2 s11.length c3, .int .i64 (s11.length : Int), .slice A6 s25.length c7, .int .i64 (s25.length : Int), .bool false, .slice A2 s11.length c3, .int .i64 (s11.length : Int), .int .i64 x38, .bool true, .int .i64 x38, .slice A2 s11.length c3, .int .i64 x38, .pointer (some ⟨b64, of65 + (x38 : Int).toNat * 1, none⟩), .int .i64 (rd s11 x38), .slice A6 s25.length c7, .int .i64 x38, (j37 10), (j37 11), (j37 12), (j37 13)], []⟩) rfl (by kernel_rfl) (by kernel_rfl) (by kernel_rfl) (fun ch_ a_ w_ q_ => (fun ch_ a_ w_ q_ => hnp ch_ a_ w_ (hp28 ch_ a_ w_ q_)) ch_ a_ w_ (hp52 ch_ a_ w_ q_)) (Sg.g0 (Sx.of [] (FM.le.refl _) HS59)) ?_
      refine takeGQ 6 [] rfl (by kernel_rfl) (by kernel_rfl) (by kernel_rfl) (by kernel_rfl) (by kernel_rfl) (by kernel_rfl) (fun ch_ a_ w_ q_ => (fun ch_ a_ w_ q_ => hnp ch_ a_ w_ (hp28 ch_ a_ w_ q_)) ch_ a_ w_ (hp52 ch_ a_ w_ q_)) (Sg.g0 (Sx.of [] (FM.le.refl _) HS59)) (fun w_ hw_ => by obtain ⟨g_, hl_, hS_⟩ := hw_.st; exact run_indexE hA73 (sz := 1) rfl Try.underlying40 (by kernel_rfl) (by kernel_rfl : _ = Value.slice A6 s25.length c7) (by kernel_rfl : _ = Value.int .i64 x38) c60 c67 w_) ?_
      refine takeGQ 7 [] rfl (by kernel_rfl) (by kernel_rfl) (by kernel_rfl) (by kernel_rfl) (by kernel_rfl) (by kernel_rfl) (fun ch_ a_ w_ q_ => (fun ch_ a_ w_ q_ => hnp ch_ a_ w_ (hp28 ch_ a_ w_ q_)) ch_ a_ w_ (hp52 ch_ a_ w_ q_)) (Sg.g0 (Sx.of [] (FM.le.refl _) HS59)) (fun w_ hw_ => by obtain ⟨g_, hl_, hS_⟩ := hw_.st; exact run_load rfl Try.underlying3 rfl (by kernel_rfl : _ = Value.pointer (some ⟨b71, of72 + (x38 : Int).toNat * 1, none⟩)) ((hc70 hl_ hS_) 0 (by decide))) ?_
      refine takeG [8] (n := 1) (fuel := 0) (l' := #[true, true, true, true, true, true, true, true, true]) (a' := ⟨#[.slice A2 s11.length c3, .slice A6 s25.length c7, undef, undef, (j37 0), .int .i64 x38, .slice A2 s11.length c3, .int .i64 (s11.length : Int), .slice A6 s25.length c7, .int .i64 (s25.length : Int), .bool false, .slice A2 s11.length c3, .int .i64 (s11.length : Int), .int .i64 x38, .bool true, .int .i64 x38, .slice A2 s11.length c3, .int .i64 x38, .pointer (some ⟨b64, of65 + (x38 : Int).toNat * 1, none⟩), .int .i64 (rd s11 x38), .slice A6 s25.length c7, .int .i64 x38, .pointer (some ⟨b71, of72 + (x38 : Int).toNat * 1, none⟩), .int .i64 (rd s25 x38), .bool ((rd s11 x38) != (rd s25 x38)), (j37 13)], []⟩) rfl (by kernel_rfl) (by kernel_rfl) (by kernel_rfl) (fun ch_ a_ w_ q_ => (fun ch_ a_ w_ q_ => hnp ch_ a_ w_ (hp28 ch_ a_ w_ q_)) ch_ a_ w_ (hp52 ch_ a_ w_ q_)) (Sg.g0 (Sx.of [] (FM.le.refl _) HS59)) ?_
      refine doneG (by kernel_rfl) ?_ _
      refine hK57 _ _ ?_
      have hq_ := ite_some h; clear h; rcases hq_ with ⟨c75, h⟩ | ⟨c75, h⟩
      · have c75 : (rd s11 x38) ≠ (rd s25 x38) := c75
        refine wpRwI 24 (x := ((rd s11 x38) != (rd s25 x38))) (v := true) (by kernel_rfl) (bne_iff_ne.mpr c75) ?_
        refine condT (by kernel_rfl) ?_
        refine wp_seq_k (fun K76 hK77 => ?_)
        refine wp_region_lit ?_
        refine seqS1 (a' := ⟨#[.slice A2 s11.length c3, .slice A6 s25.length c7, undef, undef, .bool false, .int .i64 x38, .slice A2 s11.length c3, .int .i64 (s11.length : Int), .slice A6 s25.length c7, .int .i64 (s25.length : Int), .bool false, .slice A2 s11.length c3, .int .i64 (s11.length : Int), .int .i64 x38, .bool true, .int .i64 x38, .slice A2 s11.length c3, .int .i64 x38, .pointer (some ⟨b64, of65 + (x38 : Int).toNat * 1, none⟩), .int .i64 (rd s11 x38), .slice A6 s25.length c7, .int .i64 x38, .pointer (some ⟨b71, of72 + (x38 : Int).toNat * 1, none⟩), .int .i64 (rd s25 x38), .bool true, (j37 13)], []⟩) (by kernel_rfl) ?_
        refine wpList_nil ?_
        refine hK77 _ _ ?_
        refine wp_ret ?_
        refine hr50 _ _ ?_
        refine hr26 _ _ ?_
        refine hret _ _ ?_
        refine ends_still (v := Value.bool false) (by kernel_rfl) (by kernel_rfl) ?_
        replace h := JR85 _ h
        injection h with h
        subst h
        exact ⟨f33, rfl, L34, HS59⟩
      · have c75 : ¬ ((rd s11 x38) ≠ (rd s25 x38)) := c75
        refine wpRwI 24 (x := ((rd s11 x38) != (rd s25 x38))) (v := false) (by kernel_rfl) (bne_eq_false_iff_eq.mpr (Decidable.of_not_not c75)) ?_
        refine condF (by kernel_rfl) ?_
        refine wp_skip ?_
        refine hn49 _ _ ?_
        refine hK46 _ _ ?_
        refine wp_region_lit ?_
        refine seqS2 (a' := ⟨#[.slice A2 s11.length c3, .slice A6 s25.length c7, undef, undef, (j37 0), .int .i64 x38, .slice A2 s11.length c3, .int .i64 (s11.length : Int), .slice A6 s25.length c7, .int .i64 (s25.length : Int), .bool false, .slice A2 s11.length c3, .int .i64 (s11.length : Int), .int .i64 (w64 (x38 + 1)), .bool true, .int .i64 x38, .slice A2 s11.length c3, .int .i64 x38, .pointer (some ⟨b64, of65 + (x38 : Int).toNat * 1, none⟩), .int .i64 (rd s11 x38), .slice A6 s25.length c7, .int .i64 x38, .pointer (some ⟨b71, of72 + (x38 : Int).toNat * 1, none⟩), .int .i64 (rd s25 x38), .bool false, .int .i64 (w64 (x38 + 1))], []⟩) (by kernel_rfl) ?_
        refine wpList_nil ?_
        refine hK31 n32 _ _ (Nat.lt_succ_self _) ?_
        exact ⟨f33, (w64 (x38 + 1)), (fun i_ => [(j37 0), Value.int .i64 x38, Value.bool true, Value.int .i64 x38, Value.slice A2 s11.length c3, Value.int .i64 x38, Value.pointer (some ⟨b64, of65 + (x38 : Int).toNat * 1, none⟩), Value.int .i64 (rd s11 x38), Value.slice A6 s25.length c7, Value.int .i64 x38, Value.pointer (some ⟨b71, of72 + (x38 : Int).toNat * 1, none⟩), Value.int .i64 (rd s25 x38), Value.bool false, Value.int .i64 (w64 (x38 + 1))].getD i_ undef), L34, HS59, h, (by kernel_rfl)⟩
    · have c44 : ¬ (x38 < (s11.length : Int)) := c44
      refine wpRwI 14 (x := (decide (x38 < (s11.length : Int)))) (v := false) (by kernel_rfl) (decide_eq_false c44) ?_
      refine condF (by kernel_rfl) ?_
      refine wp_exit ?_
      refine hx24 _ _ ?_
      exact J84 f33 (fun i_ => [(j37 0), (j37 1), Value.int .i64 x38, Value.bool false, (j37 3), (j37 4), (j37 5), (j37 6), (j37 7), (j37 8), (j37 9), (j37 10), (j37 11), (j37 12), (j37 13)].getD i_ undef) W35 _ L34 h HS36 (by kernel_rfl)

theorem slices_Sort_int.calls (k : Nat) (A : Option Addr) (c : Nat) (s : Seg) (xs : List Int) {t w : World} {f : FM} {H : List Seg} (HS : St t w f (s :: H)) (HO : Own (tInt .i64) 3 f A c s xs) (r1 : List Int) (h : slices_Sort_int k xs = some r1) :
    Calls Try.prog 30 #[.slice A xs.length c] w (fun e w' => ∃ (g : FM) (s' : Seg), e = .returned (Value.tuple #[]) ∧ FM.le f g ∧ St t w' g (s' :: H) ∧ Own (tInt .i64) 3 g A c s' r1 ∧ r1.length = xs.length) := by
  unfold slices_Sort_int at h
  have hq_ := guard_some h; clear h; obtain ⟨hl, h⟩ := hq_
  injection h with h; subst h
  exact sort_own Try.slices_Sort_int Try.slices_Sort_int_none HS HO hl

end Go.Sp.Q9
