import Derived.Test.YtfphahhebijhjaaDoorProg
import Derived.Test.YtfphahhebijhjaaDoorSpCopy
import Derived.Test.YtfphahhebijhjaaDoorFE3
import Derived.Test.YtfphahhebijhjaaDoorSpRound
namespace Go.Sp.E3
open Go Go.Sp Go.Proofs
set_option linter.unusedVariables false
attribute [local irreducible] wpList AnyL Code.wp Calls Does Code.wpIn wpListIn CallsIn bodyPostM LeavesInM
def ty_Card : Ty S_Card where
  sz := 4
  rep := fun f cs x => cs = [.string x.Key, .string x.Value, .string x.Unit, .string x.Note]
  pos := by decide
  len := by rintro f cs x rfl; rfl
  mono := by rintro f g cs x hl rfl; exact rfl
  one := by
    rintro f cs x rfl v hv
    simp only [List.mem_cons, List.not_mem_nil, or_false] at hv
    rcases hv with rfl | rfl | rfl | rfl <;> rfl
def ty_Frame : Ty S_Frame where
  sz := 4
  rep := fun f cs x => ∃ (A2 : Option Addr) (c2 : Nat) (A3 : Option Addr) (c3 : Nat), cs = [.int .i64 x.W, .int .i64 x.H, .slice A2 x.Cards.length c2, .slice A3 x.Counts.length c3] ∧ SlR ty_Card f A2 c2 x.Cards ∧ SlR (tInt .i64) f A3 c3 x.Counts
  pos := by decide
  len := by rintro f cs x ⟨A2, c2, A3, c3, rfl, h2, h3⟩; rfl
  mono := by rintro f g cs x hl ⟨A2, c2, A3, c3, rfl, h2, h3⟩; exact ⟨A2, c2, A3, c3, rfl, h2.mono hl, h3.mono hl⟩
  one := by
    rintro f cs x ⟨A2, c2, A3, c3, rfl, h2, h3⟩ v hv
    simp only [List.mem_cons, List.not_mem_nil, or_false] at hv
    rcases hv with rfl | rfl | rfl | rfl <;> rfl
def ty_writer : Ty S_writer where
  sz := 2
  rep := fun f cs x => ∃ (A0 : Option Addr) (c0 : Nat), cs = [.slice A0 x.out.length c0, .int .i64 x.used] ∧ SlR (tInt .u8) f A0 c0 x.out
  pos := by decide
  len := by rintro f cs x ⟨A0, c0, rfl, h0⟩; rfl
  mono := by rintro f g cs x hl ⟨A0, c0, rfl, h0⟩; exact ⟨A0, c0, rfl, h0.mono hl⟩
  one := by
    rintro f cs x ⟨A0, c0, rfl, h0⟩ v hv
    simp only [List.mem_cons, List.not_mem_nil, or_false] at hv
    rcases hv with rfl | rfl <;> rfl
def ty_reader : Ty S_reader where
  sz := 3
  rep := fun f cs x => ∃ (A0 : Option Addr) (c0 : Nat), cs = [.slice A0 x.b.length c0, .int .i64 x.used, .bool x.over] ∧ SlR (tInt .u8) f A0 c0 x.b
  pos := by decide
  len := by rintro f cs x ⟨A0, c0, rfl, h0⟩; rfl
  mono := by rintro f g cs x hl ⟨A0, c0, rfl, h0⟩; exact ⟨A0, c0, rfl, h0.mono hl⟩
  one := by
    rintro f cs x ⟨A0, c0, rfl, h0⟩ v hv
    simp only [List.mem_cons, List.not_mem_nil, or_false] at hv
    rcases hv with rfl | rfl | rfl <;> rfl
theorem inf3 : Inf Tryd.prog 3 1 8 (.int .i64 0) := .mk' (by kernel_rfl) rfl
theorem inf5 : Inf Tryd.prog 5 1 1 (.int .u8 0) := .mk' (by kernel_rfl) rfl

set_option maxRecDepth 100000 in
set_option maxHeartbeats 4000000 in
theorem spymake_Below.calls (k : Nat)  (x1 : Int) (n2 : Int) {t w : World} {f : FM} {H : List Seg} (HS : St t w f (H)) (rr1 : Int) (h : spymake_Below k x1 n2 = some rr1) :
    Calls Tryd.prog 6 #[.int .i64 x1, .int .i64 n2] w (fun e w' => ∃ (g : FM), e = .returned (Value.int .i64 rr1) ∧ FM.le f g ∧ St t w' g (H)) := by
  unfold spymake_Below at h
  refine enter Tryd.func6 rfl (tm := #[iV x1, iV n2, uV, uV, uV, uV, uV, uV, uV, uV, uV, uV, uV, uV, uV, uV]) (by kernel_rfl) ?_
  intro B hret hnor hnp
  refine wp_seq_k (fun K3 hK4 => ?_)
  refine wp_region_lit ?_
  refine seqS1 (a' := ⟨#[iV x1, iV n2, uV, uV, iV 0, uV, uV, uV, uV, uV, uV, uV, uV, uV, uV, uV], []⟩) (by kernel_rfl) ?_
  refine wpList_nil ?_
  refine hK4 _ _ ?_
  refine wp_seq_k (fun K5 hK6 => ?_)
  refine wp_seq_k (fun K7 hK8 => ?_)
  refine wp_region_lit ?_
  refine seqS2 (a' := ⟨#[iV x1, iV n2, uV, uV, iV 0, iV n2, .bool (decide (n2 < 1)), uV, uV, uV, uV, uV, uV, uV, uV, uV], []⟩) (by kernel_rfl) ?_
  refine wpList_nil ?_
  refine hK8 _ _ ?_
  have hq_ := ite_some h; clear h; rcases hq_ with ⟨c10, h⟩ | ⟨c10, h⟩
  · have c10 : n2 < 1 := c10
    refine wpRwI 6 (x := (decide (n2 < 1))) (v := true) (by kernel_rfl) (decide_eq_true c10) ?_
    refine condT (by kernel_rfl) ?_
    refine wp_seq_k (fun K11 hK12 => ?_)
    refine wp_region_lit ?_
    refine seqS1 (a' := ⟨#[iV x1, iV n2, uV, uV, iV 0, iV n2, .bool true, uV, uV, uV, uV, uV, uV, uV, uV, uV], []⟩) (by kernel_rfl) ?_
    refine wpList_nil ?_
    refine hK12 _ _ ?_
    refine wp_ret ?_
    refine hret _ _ ?_
    refine ends_still (v := Value.int .i64 0) (by kernel_rfl) (by kernel_rfl) ?_
    injection h with h
    subst h
    exact ⟨f, rfl, FM.le.refl _, HS⟩
  · have c10 : ¬ (n2 < 1) := c10
    refine wpRwI 6 (x := (decide (n2 < 1))) (v := false) (by kernel_rfl) (decide_eq_false c10) ?_
    refine condF (by kernel_rfl) ?_
    refine wp_skip ?_
    refine hK6 _ _ ?_
    refine wp_seq_k (fun K13 hK14 => ?_)
    refine wp_region_lit ?_
    have hq_ := guard_some h; clear h; obtain ⟨c15, h⟩ := hq_
    have c15 : ¬ (n2 = 0) := c15
    refine seqL2 (by kernel_rfl) ?_
    refine seqK rfl (does_run (run_rem rfl (by kernel_rfl : _ = Value.int .i64 x1) (by kernel_rfl : _ = Value.int .i64 n2) c15 w) ?_)
    refine seqS1 (a' := ⟨#[iV (Int.tmod x1 n2), iV n2, uV, uV, iV 0, iV n2, .bool false, iV x1, iV n2, iV (Int.tmod x1 n2), uV, uV, uV, uV, uV, uV], []⟩) (by kernel_rfl) ?_
    refine wpList_nil ?_
    refine hK14 _ _ ?_
    refine wp_seq_k (fun K16 hK17 => ?_)
    refine wp_seq_k (fun K18 hK19 => ?_)
    refine wp_region_lit ?_
    refine seqS2 (a' := ⟨#[iV (Int.tmod x1 n2), iV n2, uV, uV, iV 0, iV n2, .bool false, iV x1, iV n2, iV (Int.tmod x1 n2), iV (Int.tmod x1 n2), .bool (decide ((Int.tmod x1 n2) < 0)), uV, uV, uV, uV], []⟩) (by kernel_rfl) ?_
    refine wpList_nil ?_
    refine hK19 _ _ ?_
    have hq_ := ite_some h; clear h; rcases hq_ with ⟨c21, h⟩ | ⟨c21, h⟩
    · have c21 : (Int.tmod x1 n2) < 0 := c21
      refine wpRwI 11 (x := (decide ((Int.tmod x1 n2) < 0))) (v := true) (by kernel_rfl) (decide_eq_true c21) ?_
      refine condT (by kernel_rfl) ?_
      refine wp_region_lit ?_
      refine seqS4 (a' := ⟨#[iV (w64 ((Int.tmod x1 n2) + n2)), iV n2, uV, uV, iV 0, iV n2, .bool false, iV x1, iV n2, iV (Int.tmod x1 n2), iV (Int.tmod x1 n2), .bool true, iV (Int.tmod x1 n2), iV n2, iV (w64 ((Int.tmod x1 n2) + n2)), uV], []⟩) (by kernel_rfl) ?_
      refine wpList_nil ?_
      refine hK17 _ _ ?_
      refine wp_seq_k (fun K22 hK23 => ?_)
      refine wp_region_lit ?_
      refine seqS2 (a' := ⟨#[iV (w64 ((Int.tmod x1 n2) + n2)), iV n2, uV, uV, iV (w64 ((Int.tmod x1 n2) + n2)), iV n2, .bool false, iV x1, iV n2, iV (Int.tmod x1 n2), iV (Int.tmod x1 n2), .bool true, iV (Int.tmod x1 n2), iV n2, iV (w64 ((Int.tmod x1 n2) + n2)), iV (w64 ((Int.tmod x1 n2) + n2))], []⟩) (by kernel_rfl) ?_
      refine wpList_nil ?_
      refine hK23 _ _ ?_
      refine wp_ret ?_
      refine hret _ _ ?_
      refine ends_still (v := Value.int .i64 (w64 ((Int.tmod x1 n2) + n2))) (by kernel_rfl) (by kernel_rfl) ?_
      injection h with h
      subst h
      exact ⟨f, rfl, FM.le.refl _, HS⟩
    · have c21 : ¬ ((Int.tmod x1 n2) < 0) := c21
      refine wpRwI 11 (x := (decide ((Int.tmod x1 n2) < 0))) (v := false) (by kernel_rfl) (decide_eq_false c21) ?_
      refine condF (by kernel_rfl) ?_
      refine wp_skip ?_
      refine hK17 _ _ ?_
      refine wp_seq_k (fun K24 hK25 => ?_)
      refine wp_region_lit ?_
      refine seqS2 (a' := ⟨#[iV (Int.tmod x1 n2), iV n2, uV, uV, iV (Int.tmod x1 n2), iV n2, .bool false, iV x1, iV n2, iV (Int.tmod x1 n2), iV (Int.tmod x1 n2), .bool false, uV, uV, uV, iV (Int.tmod x1 n2)], []⟩) (by kernel_rfl) ?_
      refine wpList_nil ?_
      refine hK25 _ _ ?_
      refine wp_ret ?_
      refine hret _ _ ?_
      refine ends_still (v := Value.int .i64 (Int.tmod x1 n2)) (by kernel_rfl) (by kernel_rfl) ?_
      injection h with h
      subst h
      exact ⟨f, rfl, FM.le.refl _, HS⟩

set_option maxRecDepth 100000 in
set_option maxHeartbeats 4000000 in
theorem bits_Mul64.calls (k : Nat)  (x1 : Int) (y2 : Int) {t w : World} {f : FM} {H : List Seg} (HS : St t w f (H)) (rr1 : Int) (rr2 : Int) (h : bits_Mul64 k x1 y2 = some (rr1, rr2)) :
    Calls Tryd.prog 35 #[.int .u64 x1, .int .u64 y2] w (fun e w' => ∃ (g : FM), e = .returned (Value.tuple #[.int .u64 rr1, .int .u64 rr2]) ∧ FM.le f g ∧ St t w' g (H)) := by
  unfold bits_Mul64 at h
  refine enter Tryd.func35 rfl (tm := #[.int .u64 x1, .int .u64 y2, uV, uV, uV, uV, uV, uV, uV, uV, uV, uV, uV, uV, uV, uV, uV, uV, uV, uV, uV, uV, uV, uV, uV, uV, uV, uV, uV, uV, uV, uV, uV, uV, uV, uV, uV, uV, uV, uV, uV, uV, uV, uV, uV, uV, uV, uV, uV, uV, uV]) (by kernel_rfl) ?_
  intro B hret hnor hnp
  refine wp_seq_k (fun K3 hK4 => ?_)
  refine wp_region_lit ?_
  refine seqS2 (a' := ⟨#[.int .u64 x1, .int .u64 y2, uV, uV, .int .u64 0, .int .u64 0, uV, uV, uV, uV, uV, uV, uV, uV, uV, uV, uV, uV, uV, uV, uV, uV, uV, uV, uV, uV, uV, uV, uV, uV, uV, uV, uV, uV, uV, uV, uV, uV, uV, uV, uV, uV, uV, uV, uV, uV, uV, uV, uV, uV, uV], []⟩) (by kernel_rfl) ?_
  refine wpList_nil ?_
  refine hK4 _ _ ?_
  refine wp_seq_k (fun K5 hK6 => ?_)
  refine wp_region_lit ?_
  refine seqS3 (a' := ⟨#[.int .u64 x1, .int .u64 y2, uV, uV, .int .u64 0, .int .u64 0, .int .u64 (Go.bits .and .u64 x1 4294967295), uV, uV, uV, uV, uV, uV, uV, .int .u64 x1, .int .u64 (Go.bits .and .u64 x1 4294967295), uV, uV, uV, uV, uV, uV, uV, uV, uV, uV, uV, uV, uV, uV, uV, uV, uV, uV, uV, uV, uV, uV, uV, uV, uV, uV, uV, uV, uV, uV, uV, uV, uV, uV, uV], []⟩) (by kernel_rfl) ?_
  refine wpList_nil ?_
  refine hK6 _ _ ?_
  refine wp_seq_k (fun K7 hK8 => ?_)
  refine wp_region_lit ?_
  refine seqS3 (a' := ⟨#[.int .u64 x1, .int .u64 y2, uV, uV, .int .u64 0, .int .u64 0, .int .u64 (Go.bits .and .u64 x1 4294967295), .int .u64 (shr x1 32), uV, uV, uV, uV, uV, uV, .int .u64 x1, .int .u64 (Go.bits .and .u64 x1 4294967295), .int .u64 x1, .int .u64 (shr x1 32), uV, uV, uV, uV, uV, uV, uV, uV, uV, uV, uV, uV, uV, uV, uV, uV, uV, uV, uV, uV, uV, uV, uV, uV, uV, uV, uV, uV, uV, uV, uV, uV, uV], []⟩) (by kernel_rfl) ?_
  refine wpList_nil ?_
  refine hK8 _ _ ?_
  refine wp_seq_k (fun K9 hK10 => ?_)
  refine wp_region_lit ?_
  refine seqS3 (a' := ⟨#[.int .u64 x1, .int .u64 y2, uV, uV, .int .u64 0, .int .u64 0, .int .u64 (Go.bits .and .u64 x1 4294967295), .int .u64 (shr x1 32), .int .u64 (Go.bits .and .u64 y2 4294967295), uV, uV, uV, uV, uV, .int .u64 x1, .int .u64 (Go.bits .and .u64 x1 4294967295), .int .u64 x1, .int .u64 (shr x1 32), .int .u64 y2, .int .u64 (Go.bits .and .u64 y2 4294967295), uV, uV, uV, uV, uV, uV, uV, uV, uV, uV, uV, uV, uV, uV, uV, uV, uV, uV, uV, uV, uV, uV, uV, uV, uV, uV, uV, uV, uV, uV, uV], []⟩) (by kernel_rfl) ?_
  refine wpList_nil ?_
  refine hK10 _ _ ?_
  refine wp_seq_k (fun K11 hK12 => ?_)
  refine wp_region_lit ?_
  refine seqS3 (a' := ⟨#[.int .u64 x1, .int .u64 y2, uV, uV, .int .u64 0, .int .u64 0, .int .u64 (Go.bits .and .u64 x1 4294967295), .int .u64 (shr x1 32), .int .u64 (Go.bits .and .u64 y2 4294967295), .int .u64 (shr y2 32), uV, uV, uV, uV, .int .u64 x1, .int .u64 (Go.bits .and .u64 x1 4294967295), .int .u64 x1, .int .u64 (shr x1 32), .int .u64 y2, .int .u64 (Go.bits .and .u64 y2 4294967295), .int .u64 y2, .int .u64 (shr y2 32), uV, uV, uV, uV, uV, uV, uV, uV, uV, uV, uV, uV, uV, uV, uV, uV, uV, uV, uV, uV, uV, uV, uV, uV, uV, uV, uV, uV, uV], []⟩) (by kernel_rfl) ?_
  refine wpList_nil ?_
  refine hK12 _ _ ?_
  refine wp_seq_k (fun K13 hK14 => ?_)
  refine wp_region_lit ?_
  refine seqS4 (a' := ⟨#[.int .u64 x1, .int .u64 y2, uV, uV, .int .u64 0, .int .u64 0, .int .u64 (Go.bits .and .u64 x1 4294967295), .int .u64 (shr x1 32), .int .u64 (Go.bits .and .u64 y2 4294967295), .int .u64 (shr y2 32), .int .u64 (u64 ((Go.bits .and .u64 x1 4294967295) * (Go.bits .and .u64 y2 4294967295))), uV, uV, uV, .int .u64 x1, .int .u64 (Go.bits .and .u64 x1 4294967295), .int .u64 x1, .int .u64 (shr x1 32), .int .u64 y2, .int .u64 (Go.bits .and .u64 y2 4294967295), .int .u64 y2, .int .u64 (shr y2 32), .int .u64 (Go.bits .and .u64 x1 4294967295), .int .u64 (Go.bits .and .u64 y2 4294967295), .int .u64 (u64 ((Go.bits .and .u64 x1 4294967295) * (Go.bits .and .u64 y2 4294967295))), uV, uV, uV, uV, uV, uV, uV, uV, uV, uV, uV, uV, uV, uV, uV, uV, uV, uV, uV, uV, uV, uV, uV, uV, uV, uV], []⟩) (by kernel_rfl) ?_
  refine wpList_nil ?_
  refine hK14 _ _ ?_
  refine wp_seq_k (fun K15 hK16 => ?_)
  refine wp_region_lit ?_
  refine seqS7 (a' := ⟨#[.int .u64 x1, .int .u64 y2, uV, uV, .int .u64 0, .int .u64 0, .int .u64 (Go.bits .and .u64 x1 4294967295), .int .u64 (shr x1 32), .int .u64 (Go.bits .and .u64 y2 4294967295), .int .u64 (shr y2 32), .int .u64 (u64 ((Go.bits .and .u64 x1 4294967295) * (Go.bits .and .u64 y2 4294967295))), .int .u64 (u64 ((u64 ((shr x1 32) * (Go.bits .and .u64 y2 4294967295))) + (shr (u64 ((Go.bits .and .u64 x1 4294967295) * (Go.bits .and .u64 y2 4294967295))) 32))), uV, uV, .int .u64 x1, .int .u64 (Go.bits .and .u64 x1 4294967295), .int .u64 x1, .int .u64 (shr x1 32), .int .u64 y2, .int .u64 (Go.bits .and .u64 y2 4294967295), .int .u64 y2, .int .u64 (shr y2 32), .int .u64 (Go.bits .and .u64 x1 4294967295), .int .u64 (Go.bits .and .u64 y2 4294967295), .int .u64 (u64 ((Go.bits .and .u64 x1 4294967295) * (Go.bits .and .u64 y2 4294967295))), .int .u64 (shr x1 32), .int .u64 (Go.bits .and .u64 y2 4294967295), .int .u64 (u64 ((shr x1 32) * (Go.bits .and .u64 y2 4294967295))), .int .u64 (u64 ((Go.bits .and .u64 x1 4294967295) * (Go.bits .and .u64 y2 4294967295))), .int .u64 (shr (u64 ((Go.bits .and .u64 x1 4294967295) * (Go.bits .and .u64 y2 4294967295))) 32), .int .u64 (u64 ((u64 ((shr x1 32) * (Go.bits .and .u64 y2 4294967295))) + (shr (u64 ((Go.bits .and .u64 x1 4294967295) * (Go.bits .and .u64 y2 4294967295))) 32))), uV, uV, uV, uV, uV, uV, uV, uV, uV, uV, uV, uV, uV, uV, uV, uV, uV, uV, uV, uV], []⟩) (by kernel_rfl) ?_
  refine wpList_nil ?_
  refine hK16 _ _ ?_
  refine wp_seq_k (fun K17 hK18 => ?_)
  refine wp_region_lit ?_
  refine seqS3 (a' := ⟨#[.int .u64 x1, .int .u64 y2, uV, uV, .int .u64 0, .int .u64 0, .int .u64 (Go.bits .and .u64 x1 4294967295), .int .u64 (shr x1 32), .int .u64 (Go.bits .and .u64 y2 4294967295), .int .u64 (shr y2 32), .int .u64 (u64 ((Go.bits .and .u64 x1 4294967295) * (Go.bits .and .u64 y2 4294967295))), .int .u64 (u64 ((u64 ((shr x1 32) * (Go.bits .and .u64 y2 4294967295))) + (shr (u64 ((Go.bits .and .u64 x1 4294967295) * (Go.bits .and .u64 y2 4294967295))) 32))), .int .u64 (Go.bits .and .u64 (u64 ((u64 ((shr x1 32) * (Go.bits .and .u64 y2 4294967295))) + (shr (u64 ((Go.bits .and .u64 x1 4294967295) * (Go.bits .and .u64 y2 4294967295))) 32))) 4294967295), uV, .int .u64 x1, .int .u64 (Go.bits .and .u64 x1 4294967295), .int .u64 x1, .int .u64 (shr x1 32), .int .u64 y2, .int .u64 (Go.bits .and .u64 y2 4294967295), .int .u64 y2, .int .u64 (shr y2 32), .int .u64 (Go.bits .and .u64 x1 4294967295), .int .u64 (Go.bits .and .u64 y2 4294967295), .int .u64 (u64 ((Go.bits .and .u64 x1 4294967295) * (Go.bits .and .u64 y2 4294967295))), .int .u64 (shr x1 32), .int .u64 (Go.bits .and .u64 y2 4294967295), .int .u64 (u64 ((shr x1 32) * (Go.bits .and .u64 y2 4294967295))), .int .u64 (u64 ((Go.bits .and .u64 x1 4294967295) * (Go.bits .and .u64 y2 4294967295))), .int .u64 (shr (u64 ((Go.bits .and .u64 x1 4294967295) * (Go.bits .and .u64 y2 4294967295))) 32), .int .u64 (u64 ((u64 ((shr x1 32) * (Go.bits .and .u64 y2 4294967295))) + (shr (u64 ((Go.bits .and .u64 x1 4294967295) * (Go.bits .and .u64 y2 4294967295))) 32))), .int .u64 (u64 ((u64 ((shr x1 32) * (Go.bits .and .u64 y2 4294967295))) + (shr (u64 ((Go.bits .and .u64 x1 4294967295) * (Go.bits .and .u64 y2 4294967295))) 32))), .int .u64 (Go.bits .and .u64 (u64 ((u64 ((shr x1 32) * (Go.bits .and .u64 y2 4294967295))) + (shr (u64 ((Go.bits .and .u64 x1 4294967295) * (Go.bits .and .u64 y2 4294967295))) 32))) 4294967295), uV, uV, uV, uV, uV, uV, uV, uV, uV, uV, uV, uV, uV, uV, uV, uV, uV, uV], []⟩) (by kernel_rfl) ?_
  refine wpList_nil ?_
  refine hK18 _ _ ?_
  refine wp_seq_k (fun K19 hK20 => ?_)
  refine wp_region_lit ?_
  refine seqS3 (a' := ⟨#[.int .u64 x1, .int .u64 y2, uV, uV, .int .u64 0, .int .u64 0, .int .u64 (Go.bits .and .u64 x1 4294967295), .int .u64 (shr x1 32), .int .u64 (Go.bits .and .u64 y2 4294967295), .int .u64 (shr y2 32), .int .u64 (u64 ((Go.bits .and .u64 x1 4294967295) * (Go.bits .and .u64 y2 4294967295))), .int .u64 (u64 ((u64 ((shr x1 32) * (Go.bits .and .u64 y2 4294967295))) + (shr (u64 ((Go.bits .and .u64 x1 4294967295) * (Go.bits .and .u64 y2 4294967295))) 32))), .int .u64 (Go.bits .and .u64 (u64 ((u64 ((shr x1 32) * (Go.bits .and .u64 y2 4294967295))) + (shr (u64 ((Go.bits .and .u64 x1 4294967295) * (Go.bits .and .u64 y2 4294967295))) 32))) 4294967295), .int .u64 (shr (u64 ((u64 ((shr x1 32) * (Go.bits .and .u64 y2 4294967295))) + (shr (u64 ((Go.bits .and .u64 x1 4294967295) * (Go.bits .and .u64 y2 4294967295))) 32))) 32), .int .u64 x1, .int .u64 (Go.bits .and .u64 x1 4294967295), .int .u64 x1, .int .u64 (shr x1 32), .int .u64 y2, .int .u64 (Go.bits .and .u64 y2 4294967295), .int .u64 y2, .int .u64 (shr y2 32), .int .u64 (Go.bits .and .u64 x1 4294967295), .int .u64 (Go.bits .and .u64 y2 4294967295), .int .u64 (u64 ((Go.bits .and .u64 x1 4294967295) * (Go.bits .and .u64 y2 4294967295))), .int .u64 (shr x1 32), .int .u64 (Go.bits .and .u64 y2 4294967295), .int .u64 (u64 ((shr x1 32) * (Go.bits .and .u64 y2 4294967295))), .int .u64 (u64 ((Go.bits .and .u64 x1 4294967295) * (Go.bits .and .u64 y2 4294967295))), .int .u64 (shr (u64 ((Go.bits .and .u64 x1 4294967295) * (Go.bits .and .u64 y2 4294967295))) 32), .int .u64 (u64 ((u64 ((shr x1 32) * (Go.bits .and .u64 y2 4294967295))) + (shr (u64 ((Go.bits .and .u64 x1 4294967295) * (Go.bits .and .u64 y2 4294967295))) 32))), .int .u64 (u64 ((u64 ((shr x1 32) * (Go.bits .and .u64 y2 4294967295))) + (shr (u64 ((Go.bits .and .u64 x1 4294967295) * (Go.bits .and .u64 y2 4294967295))) 32))), .int .u64 (Go.bits .and .u64 (u64 ((u64 ((shr x1 32) * (Go.bits .and .u64 y2 4294967295))) + (shr (u64 ((Go.bits .and .u64 x1 4294967295) * (Go.bits .and .u64 y2 4294967295))) 32))) 4294967295), .int .u64 (u64 ((u64 ((shr x1 32) * (Go.bits .and .u64 y2 4294967295))) + (shr (u64 ((Go.bits .and .u64 x1 4294967295) * (Go.bits .and .u64 y2 4294967295))) 32))), .int .u64 (shr (u64 ((u64 ((shr x1 32) * (Go.bits .and .u64 y2 4294967295))) + (shr (u64 ((Go.bits .and .u64 x1 4294967295) * (Go.bits .and .u64 y2 4294967295))) 32))) 32), uV, uV, uV, uV, uV, uV, uV, uV, uV, uV, uV, uV, uV, uV, uV, uV], []⟩) (by kernel_rfl) ?_
  refine wpList_nil ?_
  refine hK20 _ _ ?_
  refine wp_seq_k (fun K21 hK22 => ?_)
  refine wp_region_lit ?_
  refine seqS6 (a' := ⟨#[.int .u64 x1, .int .u64 y2, uV, uV, .int .u64 0, .int .u64 0, .int .u64 (Go.bits .and .u64 x1 4294967295), .int .u64 (shr x1 32), .int .u64 (Go.bits .and .u64 y2 4294967295), .int .u64 (shr y2 32), .int .u64 (u64 ((Go.bits .and .u64 x1 4294967295) * (Go.bits .and .u64 y2 4294967295))), .int .u64 (u64 ((u64 ((shr x1 32) * (Go.bits .and .u64 y2 4294967295))) + (shr (u64 ((Go.bits .and .u64 x1 4294967295) * (Go.bits .and .u64 y2 4294967295))) 32))), .int .u64 (u64 ((Go.bits .and .u64 (u64 ((u64 ((shr x1 32) * (Go.bits .and .u64 y2 4294967295))) + (shr (u64 ((Go.bits .and .u64 x1 4294967295) * (Go.bits .and .u64 y2 4294967295))) 32))) 4294967295) + (u64 ((Go.bits .and .u64 x1 4294967295) * (shr y2 32))))), .int .u64 (shr (u64 ((u64 ((shr x1 32) * (Go.bits .and .u64 y2 4294967295))) + (shr (u64 ((Go.bits .and .u64 x1 4294967295) * (Go.bits .and .u64 y2 4294967295))) 32))) 32), .int .u64 x1, .int .u64 (Go.bits .and .u64 x1 4294967295), .int .u64 x1, .int .u64 (shr x1 32), .int .u64 y2, .int .u64 (Go.bits .and .u64 y2 4294967295), .int .u64 y2, .int .u64 (shr y2 32), .int .u64 (Go.bits .and .u64 x1 4294967295), .int .u64 (Go.bits .and .u64 y2 4294967295), .int .u64 (u64 ((Go.bits .and .u64 x1 4294967295) * (Go.bits .and .u64 y2 4294967295))), .int .u64 (shr x1 32), .int .u64 (Go.bits .and .u64 y2 4294967295), .int .u64 (u64 ((shr x1 32) * (Go.bits .and .u64 y2 4294967295))), .int .u64 (u64 ((Go.bits .and .u64 x1 4294967295) * (Go.bits .and .u64 y2 4294967295))), .int .u64 (shr (u64 ((Go.bits .and .u64 x1 4294967295) * (Go.bits .and .u64 y2 4294967295))) 32), .int .u64 (u64 ((u64 ((shr x1 32) * (Go.bits .and .u64 y2 4294967295))) + (shr (u64 ((Go.bits .and .u64 x1 4294967295) * (Go.bits .and .u64 y2 4294967295))) 32))), .int .u64 (u64 ((u64 ((shr x1 32) * (Go.bits .and .u64 y2 4294967295))) + (shr (u64 ((Go.bits .and .u64 x1 4294967295) * (Go.bits .and .u64 y2 4294967295))) 32))), .int .u64 (Go.bits .and .u64 (u64 ((u64 ((shr x1 32) * (Go.bits .and .u64 y2 4294967295))) + (shr (u64 ((Go.bits .and .u64 x1 4294967295) * (Go.bits .and .u64 y2 4294967295))) 32))) 4294967295), .int .u64 (u64 ((u64 ((shr x1 32) * (Go.bits .and .u64 y2 4294967295))) + (shr (u64 ((Go.bits .and .u64 x1 4294967295) * (Go.bits .and .u64 y2 4294967295))) 32))), .int .u64 (shr (u64 ((u64 ((shr x1 32) * (Go.bits .and .u64 y2 4294967295))) + (shr (u64 ((Go.bits .and .u64 x1 4294967295) * (Go.bits .and .u64 y2 4294967295))) 32))) 32), .int .u64 (Go.bits .and .u64 (u64 ((u64 ((shr x1 32) * (Go.bits .and .u64 y2 4294967295))) + (shr (u64 ((Go.bits .and .u64 x1 4294967295) * (Go.bits .and .u64 y2 4294967295))) 32))) 4294967295), .int .u64 (Go.bits .and .u64 x1 4294967295), .int .u64 (shr y2 32), .int .u64 (u64 ((Go.bits .and .u64 x1 4294967295) * (shr y2 32))), .int .u64 (u64 ((Go.bits .and .u64 (u64 ((u64 ((shr x1 32) * (Go.bits .and .u64 y2 4294967295))) + (shr (u64 ((Go.bits .and .u64 x1 4294967295) * (Go.bits .and .u64 y2 4294967295))) 32))) 4294967295) + (u64 ((Go.bits .and .u64 x1 4294967295) * (shr y2 32))))), uV, uV, uV, uV, uV, uV, uV, uV, uV, uV, uV], []⟩) (by kernel_rfl) ?_
  refine wpList_nil ?_
  refine hK22 _ _ ?_
  refine wp_seq_k (fun K23 hK24 => ?_)
  refine wp_region_lit ?_
  refine seqS9 (a' := ⟨#[.int .u64 x1, .int .u64 y2, uV, uV, .int .u64 (u64 ((u64 ((u64 ((shr x1 32) * (shr y2 32))) + (shr (u64 ((u64 ((shr x1 32) * (Go.bits .and .u64 y2 4294967295))) + (shr (u64 ((Go.bits .and .u64 x1 4294967295) * (Go.bits .and .u64 y2 4294967295))) 32))) 32))) + (shr (u64 ((Go.bits .and .u64 (u64 ((u64 ((shr x1 32) * (Go.bits .and .u64 y2 4294967295))) + (shr (u64 ((Go.bits .and .u64 x1 4294967295) * (Go.bits .and .u64 y2 4294967295))) 32))) 4294967295) + (u64 ((Go.bits .and .u64 x1 4294967295) * (shr y2 32))))) 32))), .int .u64 0, .int .u64 (Go.bits .and .u64 x1 4294967295), .int .u64 (shr x1 32), .int .u64 (Go.bits .and .u64 y2 4294967295), .int .u64 (shr y2 32), .int .u64 (u64 ((Go.bits .and .u64 x1 4294967295) * (Go.bits .and .u64 y2 4294967295))), .int .u64 (u64 ((u64 ((shr x1 32) * (Go.bits .and .u64 y2 4294967295))) + (shr (u64 ((Go.bits .and .u64 x1 4294967295) * (Go.bits .and .u64 y2 4294967295))) 32))), .int .u64 (u64 ((Go.bits .and .u64 (u64 ((u64 ((shr x1 32) * (Go.bits .and .u64 y2 4294967295))) + (shr (u64 ((Go.bits .and .u64 x1 4294967295) * (Go.bits .and .u64 y2 4294967295))) 32))) 4294967295) + (u64 ((Go.bits .and .u64 x1 4294967295) * (shr y2 32))))), .int .u64 (shr (u64 ((u64 ((shr x1 32) * (Go.bits .and .u64 y2 4294967295))) + (shr (u64 ((Go.bits .and .u64 x1 4294967295) * (Go.bits .and .u64 y2 4294967295))) 32))) 32), .int .u64 x1, .int .u64 (Go.bits .and .u64 x1 4294967295), .int .u64 x1, .int .u64 (shr x1 32), .int .u64 y2, .int .u64 (Go.bits .and .u64 y2 4294967295), .int .u64 y2, .int .u64 (shr y2 32), .int .u64 (Go.bits .and .u64 x1 4294967295), .int .u64 (Go.bits .and .u64 y2 4294967295), .int .u64 (u64 ((Go.bits .and .u64 x1 4294967295) * (Go.bits .and .u64 y2 4294967295))), .int .u64 (shr x1 32), .int .u64 (Go.bits .and .u64 y2 4294967295), .int .u64 (u64 ((shr x1 32) * (Go.bits .and .u64 y2 4294967295))), .int .u64 (u64 ((Go.bits .and .u64 x1 4294967295) * (Go.bits .and .u64 y2 4294967295))), .int .u64 (shr (u64 ((Go.bits .and .u64 x1 4294967295) * (Go.bits .and .u64 y2 4294967295))) 32), .int .u64 (u64 ((u64 ((shr x1 32) * (Go.bits .and .u64 y2 4294967295))) + (shr (u64 ((Go.bits .and .u64 x1 4294967295) * (Go.bits .and .u64 y2 4294967295))) 32))), .int .u64 (u64 ((u64 ((shr x1 32) * (Go.bits .and .u64 y2 4294967295))) + (shr (u64 ((Go.bits .and .u64 x1 4294967295) * (Go.bits .and .u64 y2 4294967295))) 32))), .int .u64 (Go.bits .and .u64 (u64 ((u64 ((shr x1 32) * (Go.bits .and .u64 y2 4294967295))) + (shr (u64 ((Go.bits .and .u64 x1 4294967295) * (Go.bits .and .u64 y2 4294967295))) 32))) 4294967295), .int .u64 (u64 ((u64 ((shr x1 32) * (Go.bits .and .u64 y2 4294967295))) + (shr (u64 ((Go.bits .and .u64 x1 4294967295) * (Go.bits .and .u64 y2 4294967295))) 32))), .int .u64 (shr (u64 ((u64 ((shr x1 32) * (Go.bits .and .u64 y2 4294967295))) + (shr (u64 ((Go.bits .and .u64 x1 4294967295) * (Go.bits .and .u64 y2 4294967295))) 32))) 32), .int .u64 (Go.bits .and .u64 (u64 ((u64 ((shr x1 32) * (Go.bits .and .u64 y2 4294967295))) + (shr (u64 ((Go.bits .and .u64 x1 4294967295) * (Go.bits .and .u64 y2 4294967295))) 32))) 4294967295), .int .u64 (Go.bits .and .u64 x1 4294967295), .int .u64 (shr y2 32), .int .u64 (u64 ((Go.bits .and .u64 x1 4294967295) * (shr y2 32))), .int .u64 (u64 ((Go.bits .and .u64 (u64 ((u64 ((shr x1 32) * (Go.bits .and .u64 y2 4294967295))) + (shr (u64 ((Go.bits .and .u64 x1 4294967295) * (Go.bits .and .u64 y2 4294967295))) 32))) 4294967295) + (u64 ((Go.bits .and .u64 x1 4294967295) * (shr y2 32))))), .int .u64 (shr x1 32), .int .u64 (shr y2 32), .int .u64 (u64 ((shr x1 32) * (shr y2 32))), .int .u64 (shr (u64 ((u64 ((shr x1 32) * (Go.bits .and .u64 y2 4294967295))) + (shr (u64 ((Go.bits .and .u64 x1 4294967295) * (Go.bits .and .u64 y2 4294967295))) 32))) 32), .int .u64 (u64 ((u64 ((shr x1 32) * (shr y2 32))) + (shr (u64 ((u64 ((shr x1 32) * (Go.bits .and .u64 y2 4294967295))) + (shr (u64 ((Go.bits .and .u64 x1 4294967295) * (Go.bits .and .u64 y2 4294967295))) 32))) 32))), .int .u64 (u64 ((Go.bits .and .u64 (u64 ((u64 ((shr x1 32) * (Go.bits .and .u64 y2 4294967295))) + (shr (u64 ((Go.bits .and .u64 x1 4294967295) * (Go.bits .and .u64 y2 4294967295))) 32))) 4294967295) + (u64 ((Go.bits .and .u64 x1 4294967295) * (shr y2 32))))), .int .u64 (shr (u64 ((Go.bits .and .u64 (u64 ((u64 ((shr x1 32) * (Go.bits .and .u64 y2 4294967295))) + (shr (u64 ((Go.bits .and .u64 x1 4294967295) * (Go.bits .and .u64 y2 4294967295))) 32))) 4294967295) + (u64 ((Go.bits .and .u64 x1 4294967295) * (shr y2 32))))) 32), .int .u64 (u64 ((u64 ((u64 ((shr x1 32) * (shr y2 32))) + (shr (u64 ((u64 ((shr x1 32) * (Go.bits .and .u64 y2 4294967295))) + (shr (u64 ((Go.bits .and .u64 x1 4294967295) * (Go.bits .and .u64 y2 4294967295))) 32))) 32))) + (shr (u64 ((Go.bits .and .u64 (u64 ((u64 ((shr x1 32) * (Go.bits .and .u64 y2 4294967295))) + (shr (u64 ((Go.bits .and .u64 x1 4294967295) * (Go.bits .and .u64 y2 4294967295))) 32))) 4294967295) + (u64 ((Go.bits .and .u64 x1 4294967295) * (shr y2 32))))) 32))), uV, uV, uV], []⟩) (by kernel_rfl) ?_
  refine wpList_nil ?_
  refine hK24 _ _ ?_
  refine wp_seq_k (fun K25 hK26 => ?_)
  refine wp_region_lit ?_
  refine seqS4 (a' := ⟨#[.int .u64 x1, .int .u64 y2, uV, uV, .int .u64 (u64 ((u64 ((u64 ((shr x1 32) * (shr y2 32))) + (shr (u64 ((u64 ((shr x1 32) * (Go.bits .and .u64 y2 4294967295))) + (shr (u64 ((Go.bits .and .u64 x1 4294967295) * (Go.bits .and .u64 y2 4294967295))) 32))) 32))) + (shr (u64 ((Go.bits .and .u64 (u64 ((u64 ((shr x1 32) * (Go.bits .and .u64 y2 4294967295))) + (shr (u64 ((Go.bits .and .u64 x1 4294967295) * (Go.bits .and .u64 y2 4294967295))) 32))) 4294967295) + (u64 ((Go.bits .and .u64 x1 4294967295) * (shr y2 32))))) 32))), .int .u64 (u64 (x1 * y2)), .int .u64 (Go.bits .and .u64 x1 4294967295), .int .u64 (shr x1 32), .int .u64 (Go.bits .and .u64 y2 4294967295), .int .u64 (shr y2 32), .int .u64 (u64 ((Go.bits .and .u64 x1 4294967295) * (Go.bits .and .u64 y2 4294967295))), .int .u64 (u64 ((u64 ((shr x1 32) * (Go.bits .and .u64 y2 4294967295))) + (shr (u64 ((Go.bits .and .u64 x1 4294967295) * (Go.bits .and .u64 y2 4294967295))) 32))), .int .u64 (u64 ((Go.bits .and .u64 (u64 ((u64 ((shr x1 32) * (Go.bits .and .u64 y2 4294967295))) + (shr (u64 ((Go.bits .and .u64 x1 4294967295) * (Go.bits .and .u64 y2 4294967295))) 32))) 4294967295) + (u64 ((Go.bits .and .u64 x1 4294967295) * (shr y2 32))))), .int .u64 (shr (u64 ((u64 ((shr x1 32) * (Go.bits .and .u64 y2 4294967295))) + (shr (u64 ((Go.bits .and .u64 x1 4294967295) * (Go.bits .and .u64 y2 4294967295))) 32))) 32), .int .u64 x1, .int .u64 (Go.bits .and .u64 x1 4294967295), .int .u64 x1, .int .u64 (shr x1 32), .int .u64 y2, .int .u64 (Go.bits .and .u64 y2 4294967295), .int .u64 y2, .int .u64 (shr y2 32), .int .u64 (Go.bits .and .u64 x1 4294967295), .int .u64 (Go.bits .and .u64 y2 4294967295), .int .u64 (u64 ((Go.bits .and .u64 x1 4294967295) * (Go.bits .and .u64 y2 4294967295))), .int .u64 (shr x1 32), .int .u64 (Go.bits .and .u64 y2 4294967295), .int .u64 (u64 ((shr x1 32) * (Go.bits .and .u64 y2 4294967295))), .int .u64 (u64 ((Go.bits .and .u64 x1 4294967295) * (Go.bits .and .u64 y2 4294967295))), .int .u64 (shr (u64 ((Go.bits .and .u64 x1 4294967295) * (Go.bits .and .u64 y2 4294967295))) 32), .int .u64 (u64 ((u64 ((shr x1 32) * (Go.bits .and .u64 y2 4294967295))) + (shr (u64 ((Go.bits .and .u64 x1 4294967295) * (Go.bits .and .u64 y2 4294967295))) 32))), .int .u64 (u64 ((u64 ((shr x1 32) * (Go.bits .and .u64 y2 4294967295))) + (shr (u64 ((Go.bits .and .u64 x1 4294967295) * (Go.bits .and .u64 y2 4294967295))) 32))), .int .u64 (Go.bits .and .u64 (u64 ((u64 ((shr x1 32) * (Go.bits .and .u64 y2 4294967295))) + (shr (u64 ((Go.bits .and .u64 x1 4294967295) * (Go.bits .and .u64 y2 4294967295))) 32))) 4294967295), .int .u64 (u64 ((u64 ((shr x1 32) * (Go.bits .and .u64 y2 4294967295))) + (shr (u64 ((Go.bits .and .u64 x1 4294967295) * (Go.bits .and .u64 y2 4294967295))) 32))), .int .u64 (shr (u64 ((u64 ((shr x1 32) * (Go.bits .and .u64 y2 4294967295))) + (shr (u64 ((Go.bits .and .u64 x1 4294967295) * (Go.bits .and .u64 y2 4294967295))) 32))) 32), .int .u64 (Go.bits .and .u64 (u64 ((u64 ((shr x1 32) * (Go.bits .and .u64 y2 4294967295))) + (shr (u64 ((Go.bits .and .u64 x1 4294967295) * (Go.bits .and .u64 y2 4294967295))) 32))) 4294967295), .int .u64 (Go.bits .and .u64 x1 4294967295), .int .u64 (shr y2 32), .int .u64 (u64 ((Go.bits .and .u64 x1 4294967295) * (shr y2 32))), .int .u64 (u64 ((Go.bits .and .u64 (u64 ((u64 ((shr x1 32) * (Go.bits .and .u64 y2 4294967295))) + (shr (u64 ((Go.bits .and .u64 x1 4294967295) * (Go.bits .and .u64 y2 4294967295))) 32))) 4294967295) + (u64 ((Go.bits .and .u64 x1 4294967295) * (shr y2 32))))), .int .u64 (shr x1 32), .int .u64 (shr y2 32), .int .u64 (u64 ((shr x1 32) * (shr y2 32))), .int .u64 (shr (u64 ((u64 ((shr x1 32) * (Go.bits .and .u64 y2 4294967295))) + (shr (u64 ((Go.bits .and .u64 x1 4294967295) * (Go.bits .and .u64 y2 4294967295))) 32))) 32), .int .u64 (u64 ((u64 ((shr x1 32) * (shr y2 32))) + (shr (u64 ((u64 ((shr x1 32) * (Go.bits .and .u64 y2 4294967295))) + (shr (u64 ((Go.bits .and .u64 x1 4294967295) * (Go.bits .and .u64 y2 4294967295))) 32))) 32))), .int .u64 (u64 ((Go.bits .and .u64 (u64 ((u64 ((shr x1 32) * (Go.bits .and .u64 y2 4294967295))) + (shr (u64 ((Go.bits .and .u64 x1 4294967295) * (Go.bits .and .u64 y2 4294967295))) 32))) 4294967295) + (u64 ((Go.bits .and .u64 x1 4294967295) * (shr y2 32))))), .int .u64 (shr (u64 ((Go.bits .and .u64 (u64 ((u64 ((shr x1 32) * (Go.bits .and .u64 y2 4294967295))) + (shr (u64 ((Go.bits .and .u64 x1 4294967295) * (Go.bits .and .u64 y2 4294967295))) 32))) 4294967295) + (u64 ((Go.bits .and .u64 x1 4294967295) * (shr y2 32))))) 32), .int .u64 (u64 ((u64 ((u64 ((shr x1 32) * (shr y2 32))) + (shr (u64 ((u64 ((shr x1 32) * (Go.bits .and .u64 y2 4294967295))) + (shr (u64 ((Go.bits .and .u64 x1 4294967295) * (Go.bits .and .u64 y2 4294967295))) 32))) 32))) + (shr (u64 ((Go.bits .and .u64 (u64 ((u64 ((shr x1 32) * (Go.bits .and .u64 y2 4294967295))) + (shr (u64 ((Go.bits .and .u64 x1 4294967295) * (Go.bits .and .u64 y2 4294967295))) 32))) 4294967295) + (u64 ((Go.bits .and .u64 x1 4294967295) * (shr y2 32))))) 32))), .int .u64 x1, .int .u64 y2, .int .u64 (u64 (x1 * y2))], []⟩) (by kernel_rfl) ?_
  refine wpList_nil ?_
  refine hK26 _ _ ?_
  refine wp_ret ?_
  refine hret _ _ ?_
  refine ends_still (v := Value.tuple #[.int .u64 (u64 ((u64 ((u64 ((shr x1 32) * (shr y2 32))) + (shr (u64 ((u64 ((shr x1 32) * (Go.bits .and .u64 y2 4294967295))) + (shr (u64 ((Go.bits .and .u64 x1 4294967295) * (Go.bits .and .u64 y2 4294967295))) 32))) 32))) + (shr (u64 ((Go.bits .and .u64 (u64 ((u64 ((shr x1 32) * (Go.bits .and .u64 y2 4294967295))) + (shr (u64 ((Go.bits .and .u64 x1 4294967295) * (Go.bits .and .u64 y2 4294967295))) 32))) 4294967295) + (u64 ((Go.bits .and .u64 x1 4294967295) * (shr y2 32))))) 32))), .int .u64 (u64 (x1 * y2))]) (by kernel_rfl) (by kernel_rfl) ?_
  injection h with h
  injection h with h0_ h
  subst h0_ h
  exact ⟨f, rfl, FM.le.refl _, HS⟩

set_option maxRecDepth 100000 in
set_option maxHeartbeats 4000000 in
theorem bits_Mul.calls (k : Nat)  (x1 : Int) (y2 : Int) {t w : World} {f : FM} {H : List Seg} (HS : St t w f (H)) (rr1 : Int) (rr2 : Int) (h : bits_Mul k x1 y2 = some (rr1, rr2)) :
    Calls Tryd.prog 18 #[.int .u64 x1, .int .u64 y2] w (fun e w' => ∃ (g : FM), e = .returned (Value.tuple #[.int .u64 rr1, .int .u64 rr2]) ∧ FM.le f g ∧ St t w' g (H)) := by
  unfold bits_Mul at h
  refine enter Tryd.func18 rfl (tm := #[.int .u64 x1, .int .u64 y2, uV, uV, uV, uV, uV, uV, uV, uV, uV, uV, uV, uV, uV, uV, uV, uV, uV, uV, uV, uV, uV, uV, uV, uV, uV, uV, uV, uV]) (by kernel_rfl) ?_
  intro B hret hnor hnp
  refine wp_seq_k (fun K3 hK4 => ?_)
  refine wp_region_lit ?_
  refine seqS2 (a' := ⟨#[.int .u64 x1, .int .u64 y2, uV, uV, .int .u64 0, .int .u64 0, uV, uV, uV, uV, uV, uV, uV, uV, uV, uV, uV, uV, uV, uV, uV, uV, uV, uV, uV, uV, uV, uV, uV, uV], []⟩) (by kernel_rfl) ?_
  refine wpList_nil ?_
  refine hK4 _ _ ?_
  refine wp_seq_k (fun K5 hK6 => ?_)
  refine condF (by kernel_rfl) ?_
  refine wp_skip ?_
  refine hK6 _ _ ?_
  refine wp_seq_k (fun K7 hK8 => ?_)
  refine wp_region_lit ?_
  have hq_ := bind_some h; clear h; obtain ⟨⟨vt9, vt10⟩, hc11, h⟩ := hq_
  refine seqL2 (by kernel_rfl) ?_
  refine seqK rfl (does_call (f := 35) (args := #[.int .u64 x1, .int .u64 y2]) (by kernel_rfl) (bits_Mul64.calls k x1 y2 HS vt9 vt10 hc11) ?_)
  rintro _ W14 ⟨f12, rfl, L13, HS15⟩
  refine ⟨_, rfl, ?_⟩
  refine seqS5 (a' := ⟨#[.int .u64 x1, .int .u64 y2, uV, uV, .int .u64 0, .int .u64 0, uV, uV, .int .u64 vt9, .int .u64 vt10, uV, uV, uV, uV, uV, uV, uV, uV, uV, uV, uV, uV, .tuple #[.int .u64 vt9, .int .u64 vt10], .int .u64 x1, .int .u64 y2, .tuple #[.int .u64 vt9, .int .u64 vt10], .int .u64 vt9, .int .u64 vt10, uV, uV], []⟩) (by kernel_rfl) ?_
  refine wpList_nil ?_
  refine hK8 _ _ ?_
  refine wp_seq_k (fun K16 hK17 => ?_)
  refine wp_region_lit ?_
  refine seqS4 (a' := ⟨#[.int .u64 x1, .int .u64 y2, uV, uV, .int .u64 vt9, .int .u64 vt10, uV, uV, .int .u64 vt9, .int .u64 vt10, uV, uV, uV, uV, uV, uV, uV, uV, uV, uV, uV, uV, .tuple #[.int .u64 vt9, .int .u64 vt10], .int .u64 x1, .int .u64 y2, .tuple #[.int .u64 vt9, .int .u64 vt10], .int .u64 vt9, .int .u64 vt10, .int .u64 vt9, .int .u64 vt10], []⟩) (by kernel_rfl) ?_
  refine wpList_nil ?_
  refine hK17 _ _ ?_
  refine wp_ret ?_
  refine hret _ _ ?_
  refine ends_still (v := Value.tuple #[.int .u64 vt9, .int .u64 vt10]) (by kernel_rfl) (by kernel_rfl) ?_
  injection h with h
  injection h with h0_ h
  subst h0_ h
  exact ⟨f12, rfl, L13, HS15⟩

set_option maxRecDepth 100000 in
set_option maxHeartbeats 4000000 in
theorem slices_Repeat_int.calls (k : Nat) (A2 : Option Addr) (c3 : Nat) (x1 : List Int) (count5 : Int) {t w : World} {f : FM} {H : List Seg} (HS : St t w f (H)) (HR4 : SlR (tInt .i64) f A2 c3 x1) (rr1 : List Int) (h : slices_Repeat_int k x1 count5 = some rr1) :
    Calls Tryd.prog 8 #[.slice A2 x1.length c3, .int .i64 count5] w (fun e w' => ∃ (g : FM) (A134 : Option Addr) (c135 : Nat) (s136 : Seg), e = .returned (Value.slice A134 rr1.length c135) ∧ FM.le f g ∧ St t w' g (s136 :: H) ∧ Own (tInt .i64) 3 g A134 c135 s136 rr1) := by
  unfold slices_Repeat_int at h
  refine enter Tryd.func8 rfl (tm := #[.slice A2 x1.length c3, iV count5, uV, uV, uV, uV, uV, uV, uV, uV, uV, uV, uV, uV, uV, uV, uV, uV, uV, uV, uV, uV, uV, uV, uV, uV, uV, uV, uV, uV, uV, uV, uV, uV, uV, uV, uV, uV, uV, uV, uV, uV, uV, uV, uV, uV, uV, uV]) (by kernel_rfl) ?_
  intro B hret hnor hnp
  refine wp_seq_k (fun K6 hK7 => ?_)
  refine wp_region_lit ?_
  refine seqS1 (a' := ⟨#[.slice A2 x1.length c3, iV count5, uV, uV, .slice none 0 0, uV, uV, uV, uV, uV, uV, uV, uV, uV, uV, uV, uV, uV, uV, uV, uV, uV, uV, uV, uV, uV, uV, uV, uV, uV, uV, uV, uV, uV, uV, uV, uV, uV, uV, uV, uV, uV, uV, uV, uV, uV, uV, uV], []⟩) (by kernel_rfl) ?_
  refine wpList_nil ?_
  refine hK7 _ _ ?_
  refine wp_seq_k (fun K8 hK9 => ?_)
  refine wp_seq_k (fun K10 hK11 => ?_)
  refine wp_region_lit ?_
  refine seqS2 (a' := ⟨#[.slice A2 x1.length c3, iV count5, uV, uV, .slice none 0 0, uV, uV, uV, uV, iV count5, .bool (decide (count5 < 0)), uV, uV, uV, uV, uV, uV, uV, uV, uV, uV, uV, uV, uV, uV, uV, uV, uV, uV, uV, uV, uV, uV, uV, uV, uV, uV, uV, uV, uV, uV, uV, uV, uV, uV, uV, uV, uV], []⟩) (by kernel_rfl) ?_
  refine wpList_nil ?_
  refine hK11 _ _ ?_
  have hq_ := ite_some h; clear h; rcases hq_ with ⟨c13, h⟩ | ⟨c13, h⟩
  · have c13 : count5 < 0 := c13
    refine wpRwI 10 (x := (decide (count5 < 0))) (v := true) (by kernel_rfl) (decide_eq_true c13) ?_
    refine condT (by kernel_rfl) ?_
    exact nomatch h
  · have c13 : ¬ (count5 < 0) := c13
    refine wpRwI 10 (x := (decide (count5 < 0))) (v := false) (by kernel_rfl) (decide_eq_false c13) ?_
    refine condF (by kernel_rfl) ?_
    refine wp_skip ?_
    refine hK9 _ _ ?_
    refine wp_seq_k (fun K14 hK15 => ?_)
    refine wp_region_lit ?_
    have hq_ := bind_some h; clear h; obtain ⟨⟨vt16, vt17⟩, hc18, h⟩ := hq_
    refine seqL5 (by kernel_rfl) ?_
    refine seqK rfl (does_call (f := 18) (args := #[.int .u64 (u64 ((x1.length : Int))), .int .u64 (u64 (count5))]) (by kernel_rfl) (bits_Mul.calls k (u64 ((x1.length : Int))) (u64 (count5)) HS vt16 vt17 hc18) ?_)
    rintro _ W21 ⟨f19, rfl, L20, HS22⟩
    refine ⟨_, rfl, ?_⟩
    refine seqS5 (a' := ⟨#[.slice A2 x1.length c3, iV count5, uV, uV, .slice none 0 0, .int .u64 vt16, .int .u64 vt17, uV, uV, iV count5, .bool false, uV, .tuple #[.int .u64 vt16, .int .u64 vt17], .slice A2 x1.length c3, iV (x1.length : Int), .int .u64 (u64 ((x1.length : Int))), iV count5, .int .u64 (u64 (count5)), .tuple #[.int .u64 vt16, .int .u64 vt17], .int .u64 vt16, .int .u64 vt17, uV, uV, uV, uV, uV, uV, uV, uV, uV, uV, uV, uV, uV, uV, uV, uV, uV, uV, uV, uV, uV, uV, uV, uV, uV, uV, uV], []⟩) (by kernel_rfl) ?_
    refine wpList_nil ?_
    refine hK15 _ _ ?_
    refine wp_seq_k (fun K23 hK24 => ?_)
    refine wp_seq_k (fun K25 hK26 => ?_)
    refine wp_region_lit ?_
    refine seqS3 (a' := ⟨#[.slice A2 x1.length c3, iV count5, uV, uV, .slice none 0 0, .int .u64 vt16, .int .u64 vt17, uV, uV, iV count5, .bool false, uV, .tuple #[.int .u64 vt16, .int .u64 vt17], .slice A2 x1.length c3, iV (x1.length : Int), .int .u64 (u64 ((x1.length : Int))), iV count5, .int .u64 (u64 (count5)), .tuple #[.int .u64 vt16, .int .u64 vt17], .int .u64 vt16, .int .u64 vt17, .int .u64 vt16, .bool (decide (vt16 > 0)), .bool (decide (vt16 > 0)), uV, uV, uV, uV, uV, uV, uV, uV, uV, uV, uV, uV, uV, uV, uV, uV, uV, uV, uV, uV, uV, uV, uV, uV], []⟩) (by kernel_rfl) ?_
    have hq_ := ite_some h; clear h; rcases hq_ with ⟨c27, h⟩ | ⟨c27, h⟩
    · have c27 : vt16 > 0 := c27
      refine seqRwI 22 (x := (decide (vt16 > 0))) (v := true) (by kernel_rfl) (decide_eq_true c27) ?_
      refine seqRwI 23 (x := (decide (vt16 > 0))) (v := true) (by kernel_rfl) (decide_eq_true c27) ?_
      refine seqS3 (a' := ⟨#[.slice A2 x1.length c3, iV count5, uV, uV, .slice none 0 0, .int .u64 vt16, .int .u64 vt17, uV, uV, iV count5, .bool false, uV, .tuple #[.int .u64 vt16, .int .u64 vt17], .slice A2 x1.length c3, iV (x1.length : Int), .int .u64 (u64 ((x1.length : Int))), iV count5, .int .u64 (u64 (count5)), .tuple #[.int .u64 vt16, .int .u64 vt17], .int .u64 vt16, .int .u64 vt17, .int .u64 vt16, .bool true, .bool true, uV, uV, .bool true, uV, uV, uV, uV, uV, uV, uV, uV, uV, uV, uV, uV, uV, uV, uV, uV, uV, uV, uV, uV, uV], []⟩) (by kernel_rfl) ?_
      refine wpList_nil ?_
      refine hK26 _ _ ?_
      refine condT (by kernel_rfl) ?_
      exact nomatch h
    · have c27 : ¬ (vt16 > 0) := c27
      refine seqRwI 22 (x := (decide (vt16 > 0))) (v := false) (by kernel_rfl) (decide_eq_false c27) ?_
      refine seqRwI 23 (x := (decide (vt16 > 0))) (v := false) (by kernel_rfl) (decide_eq_false c27) ?_
      refine seqS3 (a' := ⟨#[.slice A2 x1.length c3, iV count5, uV, uV, .slice none 0 0, .int .u64 vt16, .int .u64 vt17, uV, uV, iV count5, .bool false, uV, .tuple #[.int .u64 vt16, .int .u64 vt17], .slice A2 x1.length c3, iV (x1.length : Int), .int .u64 (u64 ((x1.length : Int))), iV count5, .int .u64 (u64 (count5)), .tuple #[.int .u64 vt16, .int .u64 vt17], .int .u64 vt16, .int .u64 vt17, .int .u64 vt16, .bool false, .bool false, .int .u64 vt17, .bool (decide (vt17 > 9223372036854775807)), .bool (decide (vt17 > 9223372036854775807)), uV, uV, uV, uV, uV, uV, uV, uV, uV, uV, uV, uV, uV, uV, uV, uV, uV, uV, uV, uV, uV], []⟩) (by kernel_rfl) ?_
      refine wpList_nil ?_
      refine hK26 _ _ ?_
      have hq_ := ite_some h; clear h; rcases hq_ with ⟨c29, h⟩ | ⟨c29, h⟩
      · have c29 : vt17 > 9223372036854775807 := c29
        refine wpRwI 25 (x := (decide (vt17 > 9223372036854775807))) (v := true) (by kernel_rfl) (decide_eq_true c29) ?_
        refine wpRwI 26 (x := (decide (vt17 > 9223372036854775807))) (v := true) (by kernel_rfl) (decide_eq_true c29) ?_
        refine condT (by kernel_rfl) ?_
        exact nomatch h
      · have c29 : ¬ (vt17 > 9223372036854775807) := c29
        refine wpRwI 25 (x := (decide (vt17 > 9223372036854775807))) (v := false) (by kernel_rfl) (decide_eq_false c29) ?_
        refine wpRwI 26 (x := (decide (vt17 > 9223372036854775807))) (v := false) (by kernel_rfl) (decide_eq_false c29) ?_
        refine condF (by kernel_rfl) ?_
        refine wp_skip ?_
        refine hK24 _ _ ?_
        refine wp_seq_k (fun K30 hK31 => ?_)
        refine wp_region_lit ?_
        have hq_ := guard_some h; clear h; obtain ⟨c32, h⟩ := hq_
        have c32 : 0 ≤ (w64 (vt17)) := c32
        have hq_ := guard_some h; clear h; obtain ⟨c33, h⟩ := hq_
        have c33 : (w64 (vt17)) * 8 ≤ 140737488355328 := c33
        refine seqL2 (by kernel_rfl) ?_
        refine seqK rfl (does_make (e := (tInt .i64)) (E := 3) (u := 0) (n := w64 (vt17)) rfl (by kernel_rfl : _ = Value.int .i64 (w64 (vt17))) (by kernel_rfl : _ = Value.int .i64 (w64 (vt17))) Tryd.underlying27 inf3 c32 c33 (by omega) rfl HS22 ?_)
        intro b34 W35 s36 HS37 HO38
        refine seqS1 (a' := ⟨#[.slice A2 x1.length c3, iV count5, uV, uV, .slice none 0 0, .int .u64 vt16, .int .u64 vt17, .slice (some ⟨b34, 0, none⟩) (List.replicate (w64 (vt17)).toNat (0 : Int)).length (w64 (vt17)).toNat, uV, iV count5, .bool false, uV, .tuple #[.int .u64 vt16, .int .u64 vt17], .slice A2 x1.length c3, iV (x1.length : Int), .int .u64 (u64 ((x1.length : Int))), iV count5, .int .u64 (u64 (count5)), .tuple #[.int .u64 vt16, .int .u64 vt17], .int .u64 vt16, .int .u64 vt17, .int .u64 vt16, .bool false, .bool false, .int .u64 vt17, .bool false, .bool false, uV, .int .u64 vt17, iV (w64 (vt17)), .slice (some ⟨b34, 0, none⟩) (List.replicate (w64 (vt17)).toNat (0 : Int)).length (w64 (vt17)).toNat, uV, uV, uV, uV, uV, uV, uV, uV, uV, uV, uV, uV, uV, uV, uV, uV, uV], []⟩) (by kernel_rfl) ?_
        refine wpList_nil ?_
        refine hK31 _ _ ?_
        refine wp_seq_k (fun K40 hK41 => ?_)
        refine wp_region_lit ?_
        refine seqL2 (by kernel_rfl) ?_
        refine seqK rfl (does_copy0 (e := (tInt .i64)) (E := 3) (A := (some ⟨b34, 0, none⟩)) (c := (w64 (vt17)).toNat) (xs := (List.replicate (w64 (vt17)).toNat (0 : Int))) (ys := x1) rfl Tryd.underlying27 inf3.size (by kernel_rfl : _ = Value.slice (some ⟨b34, 0, none⟩) (List.replicate (w64 (vt17)).toNat (0 : Int)).length (w64 (vt17)).toNat) (by kernel_rfl : _ = Value.slice A2 x1.length c3) HO38 HS37 ((HR4.mono L20).rc HS37) ?_)
        intro W42 s43 HS44 HO45
        refine seqRwS 7 (A := (some ⟨b34, 0, none⟩)) (m := (List.replicate (w64 (vt17)).toNat (0 : Int)).length) (n := (cpy (List.replicate (w64 (vt17)).toNat (0 : Int)) 0 x1).length) (c := (w64 (vt17)).toNat) (by kernel_rfl) (cpy_len0).symm ?_
        refine seqRwS 30 (A := (some ⟨b34, 0, none⟩)) (m := (List.replicate (w64 (vt17)).toNat (0 : Int)).length) (n := (cpy (List.replicate (w64 (vt17)).toNat (0 : Int)) 0 x1).length) (c := (w64 (vt17)).toNat) (by kernel_rfl) (cpy_len0).symm ?_
        refine seqRwS 31 (A := (some ⟨b34, 0, none⟩)) (m := (List.replicate (w64 (vt17)).toNat (0 : Int)).length) (n := (cpy (List.replicate (w64 (vt17)).toNat (0 : Int)) 0 x1).length) (c := (w64 (vt17)).toNat) (by kernel_rfl) (cpy_len0).symm ?_
        refine seqS1 (a' := ⟨#[.slice A2 x1.length c3, iV count5, uV, uV, .slice none 0 0, .int .u64 vt16, .int .u64 vt17, .slice (some ⟨b34, 0, none⟩) (cpy (List.replicate (w64 (vt17)).toNat (0 : Int)) 0 x1).length (w64 (vt17)).toNat, iV ((min x1.length ((List.replicate (w64 (vt17)).toNat (0 : Int)).length - 0) : Nat) : Int), iV count5, .bool false, uV, .tuple #[.int .u64 vt16, .int .u64 vt17], .slice A2 x1.length c3, iV (x1.length : Int), .int .u64 (u64 ((x1.length : Int))), iV count5, .int .u64 (u64 (count5)), .tuple #[.int .u64 vt16, .int .u64 vt17], .int .u64 vt16, .int .u64 vt17, .int .u64 vt16, .bool false, .bool false, .int .u64 vt17, .bool false, .bool false, uV, .int .u64 vt17, iV (w64 (vt17)), .slice (some ⟨b34, 0, none⟩) (cpy (List.replicate (w64 (vt17)).toNat (0 : Int)) 0 x1).length (w64 (vt17)).toNat, .slice (some ⟨b34, 0, none⟩) (cpy (List.replicate (w64 (vt17)).toNat (0 : Int)) 0 x1).length (w64 (vt17)).toNat, .slice A2 x1.length c3, iV ((min x1.length ((List.replicate (w64 (vt17)).toNat (0 : Int)).length - 0) : Nat) : Int), uV, uV, uV, uV, uV, uV, uV, uV, uV, uV, uV, uV, uV, uV], []⟩) (by kernel_rfl) ?_
        refine wpList_nil ?_
        refine hK41 _ _ ?_
        refine wp_seq_k (fun K46 hK47 => ?_)
        refine blockK (fun B48 hx49 hn50 hr51 ho52 hp53 => ?_)
        have hq_ := bind_some h; clear h; obtain ⟨o85, hv129, h⟩ := hq_
        have J130 : ∀ (f120 : FM) (s126 : Seg) (newslice125 : List Int) (j124 : Nat → Value) (W122 : World) (a_ : Act), FM.le f19 f120 → some (newslice125) = some o85 → St t W122 f120 (s126 :: H) → Own (tInt .i64) 3 f120 (some ⟨b34, 0, none⟩) (w64 (vt17)).toNat s126 newslice125 → newslice125.length = (cpy (List.replicate (w64 (vt17)).toNat (0 : Int)) 0 x1).length → a_ = ⟨#[.slice A2 x1.length c3, iV count5, uV, uV, .slice none 0 0, .int .u64 vt16, .int .u64 vt17, .slice (some ⟨b34, 0, none⟩) newslice125.length (w64 (vt17)).toNat, (j124 0), iV count5, .bool false, uV, .tuple #[.int .u64 vt16, .int .u64 vt17], .slice A2 x1.length c3, iV (x1.length : Int), .int .u64 (u64 ((x1.length : Int))), iV count5, .int .u64 (u64 (count5)), .tuple #[.int .u64 vt16, .int .u64 vt17], .int .u64 vt16, .int .u64 vt17, .int .u64 vt16, .bool false, .bool false, .int .u64 vt17, .bool false, .bool false, uV, .int .u64 vt17, iV (w64 (vt17)), (j124 1), (j124 2), .slice A2 x1.length c3, iV ((min x1.length ((List.replicate (w64 (vt17)).toNat (0 : Int)).length - 0) : Nat) : Int), (j124 3), (j124 4), (j124 5), (j124 6), (j124 7), (j124 8), (j124 9), (j124 10), (j124 11), (j124 12), (j124 13), (j124 14), (j124 15), uV], []⟩ → K46 a_ W122 := by
          intro f120 s126 newslice125 j124 W122 a_ L121 hj131 HS123 HO127 HL128 hfr_; subst hfr_
          injection hj131 with hj131; subst hj131; try dsimp only at h
          refine hK47 _ _ ?_
          refine wp_seq_k (fun K132 hK133 => ?_)
          refine wp_region_lit ?_
          refine seqS2 (a' := ⟨#[.slice A2 x1.length c3, iV count5, uV, uV, .slice (some ⟨b34, 0, none⟩) newslice125.length (w64 (vt17)).toNat, .int .u64 vt16, .int .u64 vt17, .slice (some ⟨b34, 0, none⟩) newslice125.length (w64 (vt17)).toNat, (j124 0), iV count5, .bool false, uV, .tuple #[.int .u64 vt16, .int .u64 vt17], .slice A2 x1.length c3, iV (x1.length : Int), .int .u64 (u64 ((x1.length : Int))), iV count5, .int .u64 (u64 (count5)), .tuple #[.int .u64 vt16, .int .u64 vt17], .int .u64 vt16, .int .u64 vt17, .int .u64 vt16, .bool false, .bool false, .int .u64 vt17, .bool false, .bool false, uV, .int .u64 vt17, iV (w64 (vt17)), (j124 1), (j124 2), .slice A2 x1.length c3, iV ((min x1.length ((List.replicate (w64 (vt17)).toNat (0 : Int)).length - 0) : Nat) : Int), (j124 3), (j124 4), (j124 5), (j124 6), (j124 7), (j124 8), (j124 9), (j124 10), (j124 11), (j124 12), (j124 13), (j124 14), (j124 15), .slice (some ⟨b34, 0, none⟩) newslice125.length (w64 (vt17)).toNat], []⟩) (by kernel_rfl) ?_
          refine wpList_nil ?_
          refine hK133 _ _ ?_
          refine wp_ret ?_
          refine hret _ _ ?_
          refine ends_still (v := Value.slice (some ⟨b34, 0, none⟩) newslice125.length (w64 (vt17)).toNat) (by kernel_rfl) (by kernel_rfl) ?_
          injection h with h
          subst h
          exact ⟨f120, (some ⟨b34, 0, none⟩), ((w64 (vt17)).toNat), s126, rfl, (L20.trans L121), HS123, HO127⟩
        clear h; have h := hv129; clear hv129
        refine loopK (fun n_ a_ w_ => ∃ (f89 : FM) (s95 : Seg) (newslice94 : List Int) (n98 : Int) (j93 : Nat → Value), FM.le f19 f89 ∧ St t w_ f89 (s95 :: H) ∧ Own (tInt .i64) 3 f89 (some ⟨b34, 0, none⟩) (w64 (vt17)).toNat s95 newslice94 ∧ newslice94.length = (cpy (List.replicate (w64 (vt17)).toNat (0 : Int)) 0 x1).length ∧ slices_Repeat_int.l0 k n_ newslice94 n98 = some o85 ∧ a_ = ⟨#[.slice A2 x1.length c3, iV count5, uV, uV, .slice none 0 0, .int .u64 vt16, .int .u64 vt17, .slice (some ⟨b34, 0, none⟩) newslice94.length (w64 (vt17)).toNat, iV n98, iV count5, .bool false, uV, .tuple #[.int .u64 vt16, .int .u64 vt17], .slice A2 x1.length c3, iV (x1.length : Int), .int .u64 (u64 ((x1.length : Int))), iV count5, .int .u64 (u64 (count5)), .tuple #[.int .u64 vt16, .int .u64 vt17], .int .u64 vt16, .int .u64 vt17, .int .u64 vt16, .bool false, .bool false, .int .u64 vt17, .bool false, .bool false, uV, .int .u64 vt17, iV (w64 (vt17)), .slice (some ⟨b34, 0, none⟩) (cpy (List.replicate (w64 (vt17)).toNat (0 : Int)) 0 x1).length (w64 (vt17)).toNat, .slice (some ⟨b34, 0, none⟩) (cpy (List.replicate (w64 (vt17)).toNat (0 : Int)) 0 x1).length (w64 (vt17)).toNat, .slice A2 x1.length c3, iV ((min x1.length ((List.replicate (w64 (vt17)).toNat (0 : Int)).length - 0) : Nat) : Int), (j93 0), (j93 1), (j93 2), (j93 3), (j93 4), (j93 5), (j93 6), (j93 7), (j93 8), (j93 9), (j93 10), (j93 11), (j93 12), uV], []⟩) k ⟨f19, s43, (cpy (List.replicate (w64 (vt17)).toNat (0 : Int)) 0 x1), ((min x1.length ((List.replicate (w64 (vt17)).toNat (0 : Int)).length - 0) : Nat) : Int), (fun i_ => [undef, undef, undef, undef, undef, undef, undef, undef, undef, undef, undef, undef, undef].getD i_ undef), (FM.le.refl _), HS44, HO45, rfl, h, (by kernel_rfl)⟩ ?_
        clear h
        rintro n88 _ W91 ⟨f89, s95, newslice94, n98, j93, L90, HS92, HO96, HL97, h, rfl⟩ K86 hK87
        obtain _ | n88 := n88
        · exact nomatch h
        simp only [slices_Repeat_int.l0] at h
        refine wp_seq_k (fun K99 hK100 => ?_)
        refine wp_seq_k (fun K101 hK102 => ?_)
        refine wp_region_lit ?_
        refine seqS4 (a' := ⟨#[.slice A2 x1.length c3, iV count5, uV, uV, .slice none 0 0, .int .u64 vt16, .int .u64 vt17, .slice (some ⟨b34, 0, none⟩) newslice94.length (w64 (vt17)).toNat, iV n98, iV count5, .bool false, uV, .tuple #[.int .u64 vt16, .int .u64 vt17], .slice A2 x1.length c3, iV (x1.length : Int), .int .u64 (u64 ((x1.length : Int))), iV count5, .int .u64 (u64 (count5)), .tuple #[.int .u64 vt16, .int .u64 vt17], .int .u64 vt16, .int .u64 vt17, .int .u64 vt16, .bool false, .bool false, .int .u64 vt17, .bool false, .bool false, uV, .int .u64 vt17, iV (w64 (vt17)), .slice (some ⟨b34, 0, none⟩) (cpy (List.replicate (w64 (vt17)).toNat (0 : Int)) 0 x1).length (w64 (vt17)).toNat, .slice (some ⟨b34, 0, none⟩) (cpy (List.replicate (w64 (vt17)).toNat (0 : Int)) 0 x1).length (w64 (vt17)).toNat, .slice A2 x1.length c3, iV ((min x1.length ((List.replicate (w64 (vt17)).toNat (0 : Int)).length - 0) : Nat) : Int), iV n98, .slice (some ⟨b34, 0, none⟩) newslice94.length (w64 (vt17)).toNat, iV (newslice94.length : Int), .bool (decide (n98 < (newslice94.length : Int))), (j93 4), (j93 5), (j93 6), (j93 7), (j93 8), (j93 9), (j93 10), (j93 11), (j93 12), uV], []⟩) (by kernel_rfl) ?_
        refine wpList_nil ?_
        refine hK102 _ _ ?_
        have hq_ := ite_some h; clear h; rcases hq_ with ⟨c104, h⟩ | ⟨c104, h⟩
        · have c104 : n98 < (newslice94.length : Int) := c104
          refine wpRwI 37 (x := (decide (n98 < (newslice94.length : Int)))) (v := true) (by kernel_rfl) (decide_eq_true c104) ?_
          refine condT (by kernel_rfl) ?_
          refine wp_skip ?_
          refine hK100 _ _ ?_
          refine blockK (fun B105 hx106 hn107 hr108 ho109 hp110 => ?_)
          refine heldG (S := Sg t f89 (H) [(7, s95)]) (n := 10) (by kernel_rfl) rfl HS92 ?_
          intro W112 HS113
          have hq_ := guard_some h; clear h; obtain ⟨c114, h⟩ := hq_
          have c114 : 0 ≤ n98 := c114
          have hq_ := guard_some h; clear h; obtain ⟨c115, h⟩ := hq_
          have c115 : n98 ≤ (newslice94.length : Int) := c115
          refine takeG [0, 1, 2] (n := 10) (fuel := 7) (l' := #[true, true, true, false, false, false, false, false, false, false]) (a' := ⟨#[.slice A2 x1.length c3, iV count5, uV, uV, .slice none 0 0, .int .u64 vt16, .int .u64 vt17, .slice (some ⟨b34, 0, none⟩) newslice94.length (w64 (vt17)).toNat, iV n98, iV count5, .bool false, uV, .tuple #[.int .u64 vt16, .int .u64 vt17], .slice A2 x1.length c3, iV (x1.length : Int), .int .u64 (u64 ((x1.length : Int))), iV count5, .int .u64 (u64 (count5)), .tuple #[.int .u64 vt16, .int .u64 vt17], .int .u64 vt16, .int .u64 vt17, .int .u64 vt16, .bool false, .bool false, .int .u64 vt17, .bool false, .bool false, uV, .int .u64 vt17, iV (w64 (vt17)), .slice (some ⟨b34, 0, none⟩) (cpy (List.replicate (w64 (vt17)).toNat (0 : Int)) 0 x1).length (w64 (vt17)).toNat, .slice (some ⟨b34, 0, none⟩) (cpy (List.replicate (w64 (vt17)).toNat (0 : Int)) 0 x1).length (w64 (vt17)).toNat, .slice A2 x1.length c3, iV ((min x1.length ((List.replicate (w64 (vt17)).toNat (0 : Int)).length - 0) : Nat) : Int), iV n98, .slice (some ⟨b34, 0, none⟩) newslice94.length (w64 (vt17)).toNat, iV (newslice94.length : Int), .bool true, iV n98, .slice (some ⟨b34, 0, none⟩) newslice94.length (w64 (vt17)).toNat, iV n98, (j93 7), (j93 8), (j93 9), (j93 10), (j93 11), (j93 12), uV], []⟩) rfl (by kernel_rfl) (by kernel_rfl) (by kernel_rfl) (fun ch_ a_ w_ q_ => (fun ch_ a_ w_ q_ => hnp ch_ a_ w_ (hp53 ch_ a_ w_ q_)) ch_ a_ w_ (hp110 ch_ a_ w_ q_)) (Sg.g1 (Sx.of [s95] (FM.le.refl _) HS113) (fun _ => St.only [] HS113 (FM.le.refl _))) ?_
          refine takeGQ 3 [] rfl (by kernel_rfl) (by kernel_rfl) (by kernel_rfl) (by kernel_rfl) (by kernel_rfl) (by kernel_rfl) (fun ch_ a_ w_ q_ => (fun ch_ a_ w_ q_ => hnp ch_ a_ w_ (hp53 ch_ a_ w_ q_)) ch_ a_ w_ (hp110 ch_ a_ w_ q_)) (Sg.g1 (Sx.of [s95] (FM.le.refl _) HS113) (fun _ => St.only [] HS113 (FM.le.refl _))) (fun w_ hw_ => by obtain ⟨g_, hl_, hS_⟩ := hw_.st; exact run_cutV (e := (tInt .i64)) (xs := newslice94) rfl Tryd.underlying27 (by kernel_rfl) (by kernel_rfl : _ = Value.slice (some ⟨b34, 0, none⟩) newslice94.length (w64 (vt17)).toNat) (by kernel_rfl : _ = Value.int .i64 n98) c114 c115 HO96.le w_) ?_
          refine takeG [4, 5] (n := 6) (fuel := 4) (l' := #[true, true, true, true, true, true, false, false, false, false]) (a' := ⟨#[.slice A2 x1.length c3, iV count5, uV, uV, .slice none 0 0, .int .u64 vt16, .int .u64 vt17, .slice (some ⟨b34, 0, none⟩) newslice94.length (w64 (vt17)).toNat, iV n98, iV count5, .bool false, uV, .tuple #[.int .u64 vt16, .int .u64 vt17], .slice A2 x1.length c3, iV (x1.length : Int), .int .u64 (u64 ((x1.length : Int))), iV count5, .int .u64 (u64 (count5)), .tuple #[.int .u64 vt16, .int .u64 vt17], .int .u64 vt16, .int .u64 vt17, .int .u64 vt16, .bool false, .bool false, .int .u64 vt17, .bool false, .bool false, uV, .int .u64 vt17, iV (w64 (vt17)), .slice (some ⟨b34, 0, none⟩) (cpy (List.replicate (w64 (vt17)).toNat (0 : Int)) 0 x1).length (w64 (vt17)).toNat, .slice (some ⟨b34, 0, none⟩) (cpy (List.replicate (w64 (vt17)).toNat (0 : Int)) 0 x1).length (w64 (vt17)).toNat, .slice A2 x1.length c3, iV ((min x1.length ((List.replicate (w64 (vt17)).toNat (0 : Int)).length - 0) : Nat) : Int), iV n98, .slice (some ⟨b34, 0, none⟩) newslice94.length (w64 (vt17)).toNat, iV (newslice94.length : Int), .bool true, iV n98, .slice (some ⟨b34, 0, none⟩) newslice94.length (w64 (vt17)).toNat, iV n98, .slice (cutA (some ⟨b34, 0, none⟩) ((w64 (vt17)).toNat) (n98).toNat 1) (newslice94.drop (n98).toNat).length ((w64 (vt17)).toNat - (n98).toNat), .slice (some ⟨b34, 0, none⟩) newslice94.length (w64 (vt17)).toNat, iV n98, (j93 10), (j93 11), (j93 12), uV], []⟩) rfl (by kernel_rfl) (by kernel_rfl) (by kernel_rfl) (fun ch_ a_ w_ q_ => (fun ch_ a_ w_ q_ => hnp ch_ a_ w_ (hp53 ch_ a_ w_ q_)) ch_ a_ w_ (hp110 ch_ a_ w_ q_)) (Sg.g1 (Sx.of [s95] (FM.le.refl _) HS113) (fun _ => St.only [] HS113 (FM.le.refl _))) ?_
          refine takeGQ 6 [] rfl (by kernel_rfl) (by kernel_rfl) (by kernel_rfl) (by kernel_rfl) (by kernel_rfl) (by kernel_rfl) (fun ch_ a_ w_ q_ => (fun ch_ a_ w_ q_ => hnp ch_ a_ w_ (hp53 ch_ a_ w_ q_)) ch_ a_ w_ (hp110 ch_ a_ w_ q_)) (Sg.g1 (Sx.of [s95] (FM.le.refl _) HS113) (fun _ => St.only [] HS113 (FM.le.refl _))) (fun w_ hw_ => by obtain ⟨g_, hl_, hS_⟩ := hw_.st; exact run_cutH (e := (tInt .i64)) (xs := newslice94) rfl Tryd.underlying27 (by kernel_rfl) (by kernel_rfl : _ = Value.slice (some ⟨b34, 0, none⟩) newslice94.length (w64 (vt17)).toNat) (by kernel_rfl : _ = Value.int .i64 n98) c114 c115 HO96.le w_) ?_
          refine takeGE 7 (by kernel_rfl) rfl (by kernel_rfl) (does_copy (n := (n98).toNat) (e := (tInt .i64)) (E := 3) (A := (some ⟨b34, 0, none⟩)) (c := (w64 (vt17)).toNat) (xs := newslice94) (ys := (newslice94.take (n98).toNat)) rfl Tryd.underlying27 inf3.size (by kernel_rfl : _ = Value.slice (cutA (some ⟨b34, 0, none⟩) ((w64 (vt17)).toNat) (n98).toNat 1) (newslice94.drop (n98).toNat).length ((w64 (vt17)).toNat - (n98).toNat)) (by kernel_rfl : _ = Value.slice (some ⟨b34, 0, none⟩) (newslice94.take (n98).toNat).length (w64 (vt17)).toNat) rfl (by omega) HO96 HS113 ((HO96.take (n98).toNat).rc HS113) ?_)
          intro W116 s117 HS118 HO119
          refine ⟨(Sg.g1 (Sx.of [s117] (FM.le.refl _) HS118) (fun hl_ => Bool.noConfusion (show true = false from hl_))), ?_⟩
          refine gateRwS 7 (A := (some ⟨b34, 0, none⟩)) (m := newslice94.length) (n := (cpy newslice94 (n98).toNat (newslice94.take (n98).toNat)).length) (c := (w64 (vt17)).toNat) (by kernel_rfl) ((cpy_lenI c114 c115)).symm ?_
          refine gateRwS 35 (A := (some ⟨b34, 0, none⟩)) (m := newslice94.length) (n := (cpy newslice94 (n98).toNat (newslice94.take (n98).toNat)).length) (c := (w64 (vt17)).toNat) (by kernel_rfl) ((cpy_lenI c114 c115)).symm ?_
          refine gateRwS 39 (A := (some ⟨b34, 0, none⟩)) (m := newslice94.length) (n := (cpy newslice94 (n98).toNat (newslice94.take (n98).toNat)).length) (c := (w64 (vt17)).toNat) (by kernel_rfl) ((cpy_lenI c114 c115)).symm ?_
          refine gateRwS 42 (A := (some ⟨b34, 0, none⟩)) (m := newslice94.length) (n := (cpy newslice94 (n98).toNat (newslice94.take (n98).toNat)).length) (c := (w64 (vt17)).toNat) (by kernel_rfl) ((cpy_lenI c114 c115)).symm ?_
          refine takeG [8, 9] (n := 2) (fuel := 0) (l' := #[true, true, true, true, true, true, true, true, true, true]) (a' := ⟨#[.slice A2 x1.length c3, iV count5, uV, uV, .slice none 0 0, .int .u64 vt16, .int .u64 vt17, .slice (some ⟨b34, 0, none⟩) (cpy newslice94 (n98).toNat (newslice94.take (n98).toNat)).length (w64 (vt17)).toNat, iV (w64 (n98 + ((min (newslice94.take (n98).toNat).length (newslice94.length - (n98).toNat) : Nat) : Int))), iV count5, .bool false, uV, .tuple #[.int .u64 vt16, .int .u64 vt17], .slice A2 x1.length c3, iV (x1.length : Int), .int .u64 (u64 ((x1.length : Int))), iV count5, .int .u64 (u64 (count5)), .tuple #[.int .u64 vt16, .int .u64 vt17], .int .u64 vt16, .int .u64 vt17, .int .u64 vt16, .bool false, .bool false, .int .u64 vt17, .bool false, .bool false, uV, .int .u64 vt17, iV (w64 (vt17)), .slice (some ⟨b34, 0, none⟩) (cpy (List.replicate (w64 (vt17)).toNat (0 : Int)) 0 x1).length (w64 (vt17)).toNat, .slice (some ⟨b34, 0, none⟩) (cpy (List.replicate (w64 (vt17)).toNat (0 : Int)) 0 x1).length (w64 (vt17)).toNat, .slice A2 x1.length c3, iV ((min x1.length ((List.replicate (w64 (vt17)).toNat (0 : Int)).length - 0) : Nat) : Int), iV n98, .slice (some ⟨b34, 0, none⟩) (cpy newslice94 (n98).toNat (newslice94.take (n98).toNat)).length (w64 (vt17)).toNat, iV (newslice94.length : Int), .bool true, iV n98, .slice (some ⟨b34, 0, none⟩) (cpy newslice94 (n98).toNat (newslice94.take (n98).toNat)).length (w64 (vt17)).toNat, iV n98, .slice (cutA (some ⟨b34, 0, none⟩) ((w64 (vt17)).toNat) (n98).toNat 1) (newslice94.drop (n98).toNat).length ((w64 (vt17)).toNat - (n98).toNat), .slice (some ⟨b34, 0, none⟩) (cpy newslice94 (n98).toNat (newslice94.take (n98).toNat)).length (w64 (vt17)).toNat, iV n98, .slice (some ⟨b34, 0, none⟩) (newslice94.take (n98).toNat).length (w64 (vt17)).toNat, iV ((min (newslice94.take (n98).toNat).length (newslice94.length - (n98).toNat) : Nat) : Int), iV (w64 (n98 + ((min (newslice94.take (n98).toNat).length (newslice94.length - (n98).toNat) : Nat) : Int))), uV], []⟩) rfl (by kernel_rfl) (by kernel_rfl) (by kernel_rfl) (fun ch_ a_ w_ q_ => (fun ch_ a_ w_ q_ => hnp ch_ a_ w_ (hp53 ch_ a_ w_ q_)) ch_ a_ w_ (hp110 ch_ a_ w_ q_)) (Sg.g1 (Sx.of [s117] (FM.le.refl _) HS118) (fun hl_ => Bool.noConfusion (show true = false from hl_))) ?_
          refine doneG (by kernel_rfl) ?_ _
          refine hn107 _ _ ?_
          refine hK87 n88 _ _ (Nat.lt_succ_self _) ?_
          exact ⟨f89, s117, (cpy newslice94 (n98).toNat (newslice94.take (n98).toNat)), (w64 (n98 + ((min (newslice94.take (n98).toNat).length (newslice94.length - (n98).toNat) : Nat) : Int))), (fun i_ => [Value.int .i64 n98, Value.slice (some ⟨b34, 0, none⟩) (cpy newslice94 (n98).toNat (newslice94.take (n98).toNat)).length (w64 (vt17)).toNat, Value.int .i64 (newslice94.length : Int), Value.bool true, Value.int .i64 n98, Value.slice (some ⟨b34, 0, none⟩) (cpy newslice94 (n98).toNat (newslice94.take (n98).toNat)).length (w64 (vt17)).toNat, Value.int .i64 n98, Value.slice (cutA (some ⟨b34, 0, none⟩) ((w64 (vt17)).toNat) (n98).toNat 1) (newslice94.drop (n98).toNat).length ((w64 (vt17)).toNat - (n98).toNat), Value.slice (some ⟨b34, 0, none⟩) (cpy newslice94 (n98).toNat (newslice94.take (n98).toNat)).length (w64 (vt17)).toNat, Value.int .i64 n98, Value.slice (some ⟨b34, 0, none⟩) (newslice94.take (n98).toNat).length (w64 (vt17)).toNat, Value.int .i64 ((min (newslice94.take (n98).toNat).length (newslice94.length - (n98).toNat) : Nat) : Int), Value.int .i64 (w64 (n98 + ((min (newslice94.take (n98).toNat).length (newslice94.length - (n98).toNat) : Nat) : Int)))].getD i_ undef), L90, HS118, HO119, ((cpy_lenI c114 c115).trans HL97), h, (by kernel_rfl)⟩
        · have c104 : ¬ (n98 < (newslice94.length : Int)) := c104
          refine wpRwI 37 (x := (decide (n98 < (newslice94.length : Int)))) (v := false) (by kernel_rfl) (decide_eq_false c104) ?_
          refine condF (by kernel_rfl) ?_
          refine wp_exit ?_
          refine hx49 _ _ ?_
          exact J130 f89 s95 newslice94 (fun i_ => [Value.int .i64 n98, Value.slice (some ⟨b34, 0, none⟩) (cpy (List.replicate (w64 (vt17)).toNat (0 : Int)) 0 x1).length (w64 (vt17)).toNat, Value.slice (some ⟨b34, 0, none⟩) (cpy (List.replicate (w64 (vt17)).toNat (0 : Int)) 0 x1).length (w64 (vt17)).toNat, Value.int .i64 n98, Value.slice (some ⟨b34, 0, none⟩) newslice94.length (w64 (vt17)).toNat, Value.int .i64 (newslice94.length : Int), Value.bool false, (j93 4), (j93 5), (j93 6), (j93 7), (j93 8), (j93 9), (j93 10), (j93 11), (j93 12)].getD i_ undef) W91 _ L90 h HS92 HO96 HL97 (by kernel_rfl)

set_option maxRecDepth 100000 in
set_option maxHeartbeats 4000000 in
theorem frame_Check_1.calls (k : Nat)  (n1 : Int) {t w : World} {f : FM} {H : List Seg} (HS : St t w f (H)) (rr1 : Bool) (h : frame_Check_1 k n1 = some rr1) :
    Calls Tryd.prog 27 #[.int .i64 n1] w (fun e w' => ∃ (g : FM), e = .returned (Value.bool rr1) ∧ FM.le f g ∧ St t w' g (H)) := by
  unfold frame_Check_1 at h
  refine enter Tryd.func27 rfl (tm := #[iV n1, uV, uV, uV, uV, uV, uV, uV, uV]) (by kernel_rfl) ?_
  intro B hret hnor hnp
  refine wp_seq_k (fun K2 hK3 => ?_)
  refine wp_region_lit ?_
  refine seqS1 (a' := ⟨#[iV n1, uV, .bool false, uV, uV, uV, uV, uV, uV], []⟩) (by kernel_rfl) ?_
  refine wpList_nil ?_
  refine hK3 _ _ ?_
  refine wp_seq_k (fun K4 hK5 => ?_)
  refine wp_region_lit ?_
  refine seqS3 (a' := ⟨#[iV n1, uV, .bool false, iV n1, .bool (decide (n1 < 0)), .bool (decide (n1 < 0)), uV, uV, uV], []⟩) (by kernel_rfl) ?_
  have hq_ := ite_some h; clear h; rcases hq_ with ⟨c6, h⟩ | ⟨c6, h⟩
  · have c6 : n1 < 0 := c6
    refine seqRwI 4 (x := (decide (n1 < 0))) (v := true) (by kernel_rfl) (decide_eq_true c6) ?_
    refine seqRwI 5 (x := (decide (n1 < 0))) (v := true) (by kernel_rfl) (decide_eq_true c6) ?_
    refine seqS4 (a' := ⟨#[iV n1, uV, .bool true, iV n1, .bool true, .bool true, uV, uV, .bool true], []⟩) (by kernel_rfl) ?_
    refine wpList_nil ?_
    refine hK5 _ _ ?_
    refine wp_ret ?_
    refine hret _ _ ?_
    refine ends_still (v := Value.bool true) (by kernel_rfl) (by kernel_rfl) ?_
    injection h with h
    subst h
    exact ⟨f, rfl, FM.le.refl _, HS⟩
  · have c6 : ¬ (n1 < 0) := c6
    refine seqRwI 4 (x := (decide (n1 < 0))) (v := false) (by kernel_rfl) (decide_eq_false c6) ?_
    refine seqRwI 5 (x := (decide (n1 < 0))) (v := false) (by kernel_rfl) (decide_eq_false c6) ?_
    refine seqS4 (a' := ⟨#[iV n1, uV, .bool (decide (n1 > 65535)), iV n1, .bool false, .bool false, iV n1, .bool (decide (n1 > 65535)), .bool (decide (n1 > 65535))], []⟩) (by kernel_rfl) ?_
    refine wpList_nil ?_
    refine hK5 _ _ ?_
    refine wp_ret ?_
    refine hret _ _ ?_
    refine ends_still (v := Value.bool (decide (n1 > 65535))) (by kernel_rfl) (by kernel_rfl) ?_
    injection h with h
    subst h
    exact ⟨f, rfl, FM.le.refl _, HS⟩

set_option maxRecDepth 100000 in
set_option maxHeartbeats 4000000 in
theorem slices_IndexFunc_int__frame_Check_1.calls (k : Nat) (A2 : Option Addr) (c3 : Nat) (s1 : List Int) {t w : World} {f : FM} {H : List Seg} (HS : St t w f (H)) (HR4 : SlR (tInt .i64) f A2 c3 s1) (rr1 : Int) (h : slices_IndexFunc_int__frame_Check_1 k s1 = some rr1) :
    Calls Tryd.prog 42 #[.slice A2 s1.length c3, .func (.func 27) #[] #[]] w (fun e w' => ∃ (g : FM), e = .returned (Value.int .i64 rr1) ∧ FM.le f g ∧ St t w' g (H)) := by
  unfold slices_IndexFunc_int__frame_Check_1 at h
  refine enter Tryd.func42 rfl (tm := #[.slice A2 s1.length c3, .func (.func 27) #[] #[], uV, uV, uV, uV, uV, uV, uV, uV, uV, uV, uV, uV, uV, uV, uV, uV, uV]) (by kernel_rfl) ?_
  intro B hret hnor hnp
  refine wp_seq_k (fun K5 hK6 => ?_)
  refine wp_region_lit ?_
  refine seqS1 (a' := ⟨#[.slice A2 s1.length c3, .func (.func 27) #[] #[], uV, uV, iV 0, uV, uV, uV, uV, uV, uV, uV, uV, uV, uV, uV, uV, uV, uV], []⟩) (by kernel_rfl) ?_
  refine wpList_nil ?_
  refine hK6 _ _ ?_
  refine wp_seq_k (fun K7 hK8 => ?_)
  refine wp_seq_k (fun K9 hK10 => ?_)
  refine wp_region_lit ?_
  refine seqS3 (a' := ⟨#[.slice A2 s1.length c3, .func (.func 27) #[] #[], uV, uV, iV 0, uV, .slice A2 s1.length c3, iV (s1.length : Int), iV 0, uV, uV, uV, uV, uV, uV, uV, uV, uV, uV], []⟩) (by kernel_rfl) ?_
  refine wpList_nil ?_
  refine hK10 _ _ ?_
  refine blockK (fun B11 hx12 hn13 hr14 ho15 hp16 => ?_)
  have hq_ := bind_some h; clear h; obtain ⟨o17, hv68, h⟩ := hq_
  have JR70 : ∀ z_, some (Sum.inl z_) = some o17 → some z_ = some rr1 := by
    intro z_ e_; injection e_ with e_; subst e_; exact h
  have J69 : ∀ (f63 : FM) (j67 : Nat → Value) (W65 : World) (a_ : Act), FM.le f f63 → some (Sum.inr ()) = some o17 → St t W65 f63 (H) → a_ = ⟨#[.slice A2 s1.length c3, .func (.func 27) #[] #[], uV, uV, (j67 0), (j67 1), .slice A2 s1.length c3, iV (s1.length : Int), (j67 2), (j67 3), (j67 4), (j67 5), (j67 6), (j67 7), (j67 8), (j67 9), (j67 10), (j67 11), (j67 12)], []⟩ → K7 a_ W65 := by
    intro f63 j67 W65 a_ L64 hj71 HS66  hfr_; subst hfr_
    injection hj71 with hj71; subst hj71; try dsimp only at h
    simp only [Sum.elim_inr] at h
    refine hK8 _ _ ?_
    refine wp_seq_k (fun K72 hK73 => ?_)
    refine wp_region_lit ?_
    refine seqS1 (a' := ⟨#[.slice A2 s1.length c3, .func (.func 27) #[] #[], uV, uV, iV (-1), (j67 1), .slice A2 s1.length c3, iV (s1.length : Int), (j67 2), (j67 3), (j67 4), (j67 5), (j67 6), (j67 7), (j67 8), (j67 9), (j67 10), (j67 11), (j67 12)], []⟩) (by kernel_rfl) ?_
    refine wpList_nil ?_
    refine hK73 _ _ ?_
    refine wp_ret ?_
    refine hret _ _ ?_
    refine ends_still (v := Value.int .i64 (-1)) (by kernel_rfl) (by kernel_rfl) ?_
    injection h with h
    subst h
    exact ⟨f63, rfl, L64, HS66⟩
  clear h; have h := hv68; clear hv68
  refine loopK (fun n_ a_ w_ => ∃ (f21 : FM) (x26 : Int) (j25 : Nat → Value), FM.le f f21 ∧ St t w_ f21 (H) ∧ slices_IndexFunc_int__frame_Check_1.l0 k s1 n_ x26 = some o17 ∧ a_ = ⟨#[.slice A2 s1.length c3, .func (.func 27) #[] #[], uV, uV, (j25 0), (j25 1), .slice A2 s1.length c3, iV (s1.length : Int), iV x26, (j25 2), (j25 3), (j25 4), (j25 5), (j25 6), (j25 7), (j25 8), (j25 9), (j25 10), (j25 11)], []⟩) k ⟨f, 0, (fun i_ => [Value.int .i64 0, undef, undef, undef, undef, undef, undef, undef, undef, undef, undef, undef].getD i_ undef), (FM.le.refl _), HS, h, (by kernel_rfl)⟩ ?_
  clear h
  rintro n20 _ W23 ⟨f21, x26, j25, L22, HS24, h, rfl⟩ K18 hK19
  obtain _ | n20 := n20
  · exact nomatch h
  simp only [slices_IndexFunc_int__frame_Check_1.l0] at h
  refine wp_seq_k (fun K27 hK28 => ?_)
  refine wp_region_lit ?_
  refine seqS1 (a' := ⟨#[.slice A2 s1.length c3, .func (.func 27) #[] #[], uV, uV, (j25 0), (j25 1), .slice A2 s1.length c3, iV (s1.length : Int), iV x26, .bool (decide (x26 < (s1.length : Int))), (j25 3), (j25 4), (j25 5), (j25 6), (j25 7), (j25 8), (j25 9), (j25 10), (j25 11)], []⟩) (by kernel_rfl) ?_
  refine wpList_nil ?_
  refine hK28 _ _ ?_
  refine wp_seq_k (fun K29 hK30 => ?_)
  have hq_ := ite_some h; clear h; rcases hq_ with ⟨c32, h⟩ | ⟨c32, h⟩
  · have c32 : x26 < (s1.length : Int) := c32
    refine wpRwI 9 (x := (decide (x26 < (s1.length : Int)))) (v := true) (by kernel_rfl) (decide_eq_true c32) ?_
    refine condT (by kernel_rfl) ?_
    refine wp_skip ?_
    refine hK30 _ _ ?_
    refine wp_seq_k (fun K33 hK34 => ?_)
    refine blockK (fun B35 hx36 hn37 hr38 ho39 hp40 => ?_)
    refine wp_seq_k (fun K42 hK43 => ?_)
    refine wp_region_lit ?_
    refine seqS2 (a' := ⟨#[.slice A2 s1.length c3, .func (.func 27) #[] #[], uV, uV, (j25 0), iV x26, .slice A2 s1.length c3, iV (s1.length : Int), iV x26, .bool true, iV x26, (j25 4), (j25 5), (j25 6), (j25 7), (j25 8), (j25 9), (j25 10), (j25 11)], []⟩) (by kernel_rfl) ?_
    refine wpList_nil ?_
    refine hK43 _ _ ?_
    refine wp_seq_k (fun K44 hK45 => ?_)
    refine wp_region_lit ?_
    have hq_ := guard_some h; clear h; obtain ⟨c46, h⟩ := hq_
    have c46 : 0 ≤ x26 := c46
    obtain ⟨b50, of51, cs47, hA52, hr48, hc49⟩ := (HR4.mono L22).at (i := x26) c46 c32
    obtain rfl := hr48
    refine seqL3 (by kernel_rfl) ?_
    refine seqK rfl (does_run (run_indexE hA52 (sz := 1) rfl Tryd.underlying27 (by kernel_rfl) (by kernel_rfl : _ = Value.slice A2 s1.length c3) (by kernel_rfl : _ = Value.int .i64 x26) c46 c32 W23) ?_)
    refine seqK rfl (does_run (run_load rfl Tryd.underlying3 rfl (by kernel_rfl : _ = Value.pointer (some ⟨b50, of51 + (x26 : Int).toNat * 1, none⟩)) ((hc49 (FM.le.refl _) HS24) 0 (by decide))) ?_)
    have hq_ := bind_some h; clear h; obtain ⟨vt53, hc54, h⟩ := hq_
    refine seqK rfl (does_call (f := 27) (args := #[.int .i64 (rd s1 x26)]) (by kernel_rfl) (frame_Check_1.calls k (rd s1 x26) HS24 vt53 hc54) ?_)
    rintro _ W57 ⟨f55, rfl, L56, HS58⟩
    refine ⟨_, rfl, ?_⟩
    refine wpList_nil ?_
    refine hK45 _ _ ?_
    have hq_ := ite_some h; clear h; rcases hq_ with ⟨c60, h⟩ | ⟨c60, h⟩
    · have c60 : vt53 = true := c60
      refine wpRwI 16 (x := vt53) (v := true) (by kernel_rfl) c60 ?_
      refine condT (by kernel_rfl) ?_
      refine wp_seq_k (fun K61 hK62 => ?_)
      refine wp_region_lit ?_
      refine seqS2 (a' := ⟨#[.slice A2 s1.length c3, .func (.func 27) #[] #[], uV, uV, iV x26, iV x26, .slice A2 s1.length c3, iV (s1.length : Int), iV x26, .bool true, iV x26, .func (.func 27) #[] #[], .slice A2 s1.length c3, iV x26, .pointer (some ⟨b50, of51 + (x26 : Int).toNat * 1, none⟩), iV (rd s1 x26), .bool true, iV x26, (j25 11)], []⟩) (by kernel_rfl) ?_
      refine wpList_nil ?_
      refine hK62 _ _ ?_
      refine wp_ret ?_
      refine hr38 _ _ ?_
      refine hr14 _ _ ?_
      refine hret _ _ ?_
      refine ends_still (v := Value.int .i64 x26) (by kernel_rfl) (by kernel_rfl) ?_
      replace h := JR70 _ h
      injection h with h
      subst h
      exact ⟨f55, rfl, (L22.trans L56), HS58⟩
    · have c60 : ¬ (vt53 = true) := c60
      refine wpRwI 16 (x := vt53) (v := false) (by kernel_rfl) (Bool.eq_false_iff.mpr c60) ?_
      refine condF (by kernel_rfl) ?_
      refine wp_skip ?_
      refine hn37 _ _ ?_
      refine hK34 _ _ ?_
      refine wp_region_lit ?_
      refine seqS2 (a' := ⟨#[.slice A2 s1.length c3, .func (.func 27) #[] #[], uV, uV, (j25 0), iV x26, .slice A2 s1.length c3, iV (s1.length : Int), iV (w64 (x26 + 1)), .bool true, iV x26, .func (.func 27) #[] #[], .slice A2 s1.length c3, iV x26, .pointer (some ⟨b50, of51 + (x26 : Int).toNat * 1, none⟩), iV (rd s1 x26), .bool false, (j25 10), iV (w64 (x26 + 1))], []⟩) (by kernel_rfl) ?_
      refine wpList_nil ?_
      refine hK19 n20 _ _ (Nat.lt_succ_self _) ?_
      exact ⟨f55, (w64 (x26 + 1)), (fun i_ => [(j25 0), Value.int .i64 x26, Value.bool true, Value.int .i64 x26, Value.func (.func 27) #[] #[], Value.slice A2 s1.length c3, Value.int .i64 x26, Value.pointer (some ⟨b50, of51 + (x26 : Int).toNat * 1, none⟩), Value.int .i64 (rd s1 x26), Value.bool false, (j25 10), Value.int .i64 (w64 (x26 + 1))].getD i_ undef), (L22.trans L56), HS58, h, (by kernel_rfl)⟩
  · have c32 : ¬ (x26 < (s1.length : Int)) := c32
    refine wpRwI 9 (x := (decide (x26 < (s1.length : Int)))) (v := false) (by kernel_rfl) (decide_eq_false c32) ?_
    refine condF (by kernel_rfl) ?_
    refine wp_exit ?_
    refine hx12 _ _ ?_
    exact J69 f21 (fun i_ => [(j25 0), (j25 1), Value.int .i64 x26, Value.bool false, (j25 3), (j25 4), (j25 5), (j25 6), (j25 7), (j25 8), (j25 9), (j25 10), (j25 11)].getD i_ undef) W23 _ L22 h HS24 (by kernel_rfl)

set_option maxRecDepth 100000 in
set_option maxHeartbeats 4000000 in
theorem slices_ContainsFunc_int__frame_Check_1.calls (k : Nat) (A2 : Option Addr) (c3 : Nat) (s1 : List Int) {t w : World} {f : FM} {H : List Seg} (HS : St t w f (H)) (HR4 : SlR (tInt .i64) f A2 c3 s1) (rr1 : Bool) (h : slices_ContainsFunc_int__frame_Check_1 k s1 = some rr1) :
    Calls Tryd.prog 26 #[.slice A2 s1.length c3, .func (.func 27) #[] #[]] w (fun e w' => ∃ (g : FM), e = .returned (Value.bool rr1) ∧ FM.le f g ∧ St t w' g (H)) := by
  unfold slices_ContainsFunc_int__frame_Check_1 at h
  refine enter Tryd.func26 rfl (tm := #[.slice A2 s1.length c3, .func (.func 27) #[] #[], uV, uV, uV, uV, uV, uV, uV]) (by kernel_rfl) ?_
  intro B hret hnor hnp
  refine wp_seq_k (fun K5 hK6 => ?_)
  refine wp_region_lit ?_
  refine seqS1 (a' := ⟨#[.slice A2 s1.length c3, .func (.func 27) #[] #[], uV, uV, .bool false, uV, uV, uV, uV], []⟩) (by kernel_rfl) ?_
  refine wpList_nil ?_
  refine hK6 _ _ ?_
  refine wp_seq_k (fun K7 hK8 => ?_)
  refine wp_region_lit ?_
  have hq_ := bind_some h; clear h; obtain ⟨vt9, hc10, h⟩ := hq_
  refine seqL2 (by kernel_rfl) ?_
  refine seqK rfl (does_call (f := 42) (args := #[.slice A2 s1.length c3, .func (.func 27) #[] #[]]) (by kernel_rfl) (slices_IndexFunc_int__frame_Check_1.calls k A2 c3 s1 HS HR4 vt9 hc10) ?_)
  rintro _ W13 ⟨f11, rfl, L12, HS14⟩
  refine ⟨_, rfl, ?_⟩
  refine seqS2 (a' := ⟨#[.slice A2 s1.length c3, .func (.func 27) #[] #[], uV, uV, .bool (decide (vt9 ≥ 0)), .slice A2 s1.length c3, .func (.func 27) #[] #[], iV vt9, .bool (decide (vt9 ≥ 0))], []⟩) (by kernel_rfl) ?_
  refine wpList_nil ?_
  refine hK8 _ _ ?_
  refine wp_ret ?_
  refine hret _ _ ?_
  refine ends_still (v := Value.bool (decide (vt9 ≥ 0))) (by kernel_rfl) (by kernel_rfl) ?_
  injection h with h
  subst h
  exact ⟨f11, rfl, L12, HS14⟩

set_option maxRecDepth 100000 in
set_option maxHeartbeats 4000000 in
theorem frame_Check.calls (k : Nat) (A2 : Option Addr) (c3 : Nat) (vf1 : S_Frame) {t w : World} {f : FM} {H : List Seg} (HS : St t w f (H)) (HR4 : SlR (tInt .i64) f A2 c3 vf1.Counts) (rr1 : Int) (h : frame_Check k vf1 = some rr1) :
    Calls Tryd.prog 15 #[.agg #[.int .i64 vf1.W, .int .i64 vf1.H, .slice none 0 0, .slice A2 vf1.Counts.length c3]] w (fun e w' => ∃ (g : FM), e = .returned (Value.int .i64 rr1) ∧ FM.le f g ∧ St t w' g (H)) := by
  unfold frame_Check at h
  refine enter Tryd.func15 rfl (tm := #[.agg #[iV vf1.W, iV vf1.H, .slice none 0 0, .slice A2 vf1.Counts.length c3], uV, uV, uV, uV, uV, uV, uV, uV, uV, uV, uV, uV, uV, uV, uV, uV, uV, uV, uV, uV, uV, uV, uV, uV, uV, uV, uV, uV, uV, uV, uV, uV, uV, uV, uV, uV, uV, uV, uV, uV, uV, uV, uV, uV, uV, uV, uV, uV, uV, uV, uV, uV, uV, uV, uV, uV, uV, uV, uV, uV, uV]) (by kernel_rfl) ?_
  intro B hret hnor hnp
  refine wp_seq_k (fun K5 hK6 => ?_)
  refine wp_region_lit ?_
  refine seqK rfl (does_box (cs := #[.int .i64 vf1.W, .int .i64 vf1.H, .slice none 0 0, .slice A2 vf1.Counts.length c3]) rfl (by kernel_rfl : _ = Value.agg #[.int .i64 vf1.W, .int .i64 vf1.H, .slice none 0 0, .slice A2 vf1.Counts.length c3]) rfl HS ?_)
  intro b7 W8 HS9
  refine seqS1 (a' := ⟨#[.agg #[iV vf1.W, iV vf1.H, .slice none 0 0, .slice A2 vf1.Counts.length c3], .pointer (some ⟨b7, 0, none⟩), iV 0, uV, uV, uV, uV, uV, uV, uV, uV, uV, uV, uV, uV, uV, uV, uV, uV, uV, uV, uV, uV, uV, uV, uV, uV, uV, uV, uV, uV, uV, uV, uV, uV, uV, uV, uV, uV, uV, uV, uV, uV, uV, uV, uV, uV, uV, uV, uV, uV, uV, uV, uV, uV, uV, uV, uV, uV, uV, uV, uV], []⟩) (by kernel_rfl) ?_
  refine wpList_nil ?_
  refine hK6 _ _ ?_
  refine wp_seq_k (fun K11 hK12 => ?_)
  refine blockK (fun B13 hx14 hn15 hr16 ho17 hp18 => ?_)
  refine wp_seq_k (fun K20 hK21 => ?_)
  refine wp_region_lit ?_
  refine seqL1 (by kernel_rfl) ?_
  refine seqK rfl (does_run (run_load rfl Tryd.underlying3 rfl (by kernel_rfl : _ = Value.pointer (some ⟨b7, 0, none⟩)) (HS9.cell 0)) ?_)
  refine seqL1 (by kernel_rfl) ?_
  refine seqK rfl (does_run (run_load rfl Tryd.underlying3 rfl (by kernel_rfl : _ = Value.pointer (some ⟨b7, 1, none⟩)) (HS9.cell 1)) ?_)
  refine seqS3 (a' := ⟨#[.agg #[iV vf1.W, iV vf1.H, .slice none 0 0, .slice A2 vf1.Counts.length c3], .pointer (some ⟨b7, 0, none⟩), iV 0, uV, uV, uV, uV, .pointer (some ⟨b7, 0, none⟩), iV vf1.W, .pointer (some ⟨b7, 1, none⟩), iV vf1.H, iV (mn vf1.W vf1.H), .bool (decide ((mn vf1.W vf1.H) < 1)), .bool (decide ((mn vf1.W vf1.H) < 1)), uV, uV, uV, uV, uV, uV, uV, uV, uV, uV, uV, uV, uV, uV, uV, uV, uV, uV, uV, uV, uV, uV, uV, uV, uV, uV, uV, uV, uV, uV, uV, uV, uV, uV, uV, uV, uV, uV, uV, uV, uV, uV, uV, uV, uV, uV, uV, uV], []⟩) (by kernel_rfl) ?_
  have hq_ := ite_some h; clear h; rcases hq_ with ⟨c22, h⟩ | ⟨c22, h⟩
  · have c22 : (mn vf1.W vf1.H) < 1 := c22
    refine seqRwI 12 (x := (decide ((mn vf1.W vf1.H) < 1))) (v := true) (by kernel_rfl) (decide_eq_true c22) ?_
    refine seqRwI 13 (x := (decide ((mn vf1.W vf1.H) < 1))) (v := true) (by kernel_rfl) (decide_eq_true c22) ?_
    refine seqS8 (a' := ⟨#[.agg #[iV vf1.W, iV vf1.H, .slice none 0 0, .slice A2 vf1.Counts.length c3], .pointer (some ⟨b7, 0, none⟩), iV 0, uV, uV, uV, .bool true, .pointer (some ⟨b7, 0, none⟩), iV vf1.W, .pointer (some ⟨b7, 1, none⟩), iV vf1.H, iV (mn vf1.W vf1.H), .bool true, .bool true, uV, uV, uV, uV, uV, uV, .bool true, uV, uV, uV, uV, uV, uV, uV, uV, uV, uV, uV, uV, uV, uV, uV, uV, uV, uV, uV, uV, uV, uV, uV, uV, uV, uV, uV, uV, uV, uV, uV, uV, uV, uV, uV, uV, uV, uV, uV, uV, uV], []⟩) (by kernel_rfl) ?_
    refine wpList_nil ?_
    refine hK21 _ _ ?_
    refine condT (by kernel_rfl) ?_
    refine wp_seq_k (fun K23 hK24 => ?_)
    refine wp_region_lit ?_
    refine seqS1 (a' := ⟨#[.agg #[iV vf1.W, iV vf1.H, .slice none 0 0, .slice A2 vf1.Counts.length c3], .pointer (some ⟨b7, 0, none⟩), iV 4, uV, uV, uV, .bool true, .pointer (some ⟨b7, 0, none⟩), iV vf1.W, .pointer (some ⟨b7, 1, none⟩), iV vf1.H, iV (mn vf1.W vf1.H), .bool true, .bool true, uV, uV, uV, uV, uV, uV, .bool true, uV, uV, uV, uV, uV, uV, uV, uV, uV, uV, uV, uV, uV, uV, uV, uV, uV, uV, uV, uV, uV, uV, uV, uV, uV, uV, uV, uV, uV, uV, uV, uV, uV, uV, uV, uV, uV, uV, uV, uV, uV], []⟩) (by kernel_rfl) ?_
    refine wpList_nil ?_
    refine hK24 _ _ ?_
    refine wp_ret ?_
    refine hr16 _ _ ?_
    refine hret _ _ ?_
    refine ends_still (v := Value.int .i64 4) (by kernel_rfl) (by kernel_rfl) ?_
    have HS66 := HS9.drop
    injection h with h
    subst h
    exact ⟨f, rfl, FM.le.refl _, HS66⟩
  · have c22 : ¬ ((mn vf1.W vf1.H) < 1) := c22
    refine seqRwI 12 (x := (decide ((mn vf1.W vf1.H) < 1))) (v := false) (by kernel_rfl) (decide_eq_false c22) ?_
    refine seqRwI 13 (x := (decide ((mn vf1.W vf1.H) < 1))) (v := false) (by kernel_rfl) (decide_eq_false c22) ?_
    refine seqL1 (by kernel_rfl) ?_
    refine seqG (by kernel_rfl) (does_run (run_load rfl Tryd.underlying3 rfl (by kernel_rfl : _ = Value.pointer (some ⟨b7, 0, none⟩)) (HS9.cell 0)) ?_)
    refine seqL1 (by kernel_rfl) ?_
    refine seqG (by kernel_rfl) (does_run (run_load rfl Tryd.underlying3 rfl (by kernel_rfl : _ = Value.pointer (some ⟨b7, 1, none⟩)) (HS9.cell 1)) ?_)
    refine seqS4 (a' := ⟨#[.agg #[iV vf1.W, iV vf1.H, .slice none 0 0, .slice A2 vf1.Counts.length c3], .pointer (some ⟨b7, 0, none⟩), iV 0, uV, uV, uV, .bool (decide ((mx vf1.W vf1.H) > 32)), .pointer (some ⟨b7, 0, none⟩), iV vf1.W, .pointer (some ⟨b7, 1, none⟩), iV vf1.H, iV (mn vf1.W vf1.H), .bool false, .bool false, .pointer (some ⟨b7, 0, none⟩), iV vf1.W, .pointer (some ⟨b7, 1, none⟩), iV vf1.H, iV (mx vf1.W vf1.H), .bool (decide ((mx vf1.W vf1.H) > 32)), .bool (decide ((mx vf1.W vf1.H) > 32)), uV, uV, uV, uV, uV, uV, uV, uV, uV, uV, uV, uV, uV, uV, uV, uV, uV, uV, uV, uV, uV, uV, uV, uV, uV, uV, uV, uV, uV, uV, uV, uV, uV, uV, uV, uV, uV, uV, uV, uV, uV], []⟩) (by kernel_rfl) ?_
    refine wpList_nil ?_
    refine hK21 _ _ ?_
    have hq_ := ite_some h; clear h; rcases hq_ with ⟨c26, h⟩ | ⟨c26, h⟩
    · have c26 : (mx vf1.W vf1.H) > 32 := c26
      refine wpRwI 6 (x := (decide ((mx vf1.W vf1.H) > 32))) (v := true) (by kernel_rfl) (decide_eq_true c26) ?_
      refine wpRwI 19 (x := (decide ((mx vf1.W vf1.H) > 32))) (v := true) (by kernel_rfl) (decide_eq_true c26) ?_
      refine wpRwI 20 (x := (decide ((mx vf1.W vf1.H) > 32))) (v := true) (by kernel_rfl) (decide_eq_true c26) ?_
      refine condT (by kernel_rfl) ?_
      refine wp_seq_k (fun K27 hK28 => ?_)
      refine wp_region_lit ?_
      refine seqS1 (a' := ⟨#[.agg #[iV vf1.W, iV vf1.H, .slice none 0 0, .slice A2 vf1.Counts.length c3], .pointer (some ⟨b7, 0, none⟩), iV 4, uV, uV, uV, .bool true, .pointer (some ⟨b7, 0, none⟩), iV vf1.W, .pointer (some ⟨b7, 1, none⟩), iV vf1.H, iV (mn vf1.W vf1.H), .bool false, .bool false, .pointer (some ⟨b7, 0, none⟩), iV vf1.W, .pointer (some ⟨b7, 1, none⟩), iV vf1.H, iV (mx vf1.W vf1.H), .bool true, .bool true, uV, uV, uV, uV, uV, uV, uV, uV, uV, uV, uV, uV, uV, uV, uV, uV, uV, uV, uV, uV, uV, uV, uV, uV, uV, uV, uV, uV, uV, uV, uV, uV, uV, uV, uV, uV, uV, uV, uV, uV, uV], []⟩) (by kernel_rfl) ?_
      refine wpList_nil ?_
      refine hK28 _ _ ?_
      refine wp_ret ?_
      refine hr16 _ _ ?_
      refine hret _ _ ?_
      refine ends_still (v := Value.int .i64 4) (by kernel_rfl) (by kernel_rfl) ?_
      have HS67 := HS9.drop
      injection h with h
      subst h
      exact ⟨f, rfl, FM.le.refl _, HS67⟩
    · have c26 : ¬ ((mx vf1.W vf1.H) > 32) := c26
      refine wpRwI 6 (x := (decide ((mx vf1.W vf1.H) > 32))) (v := false) (by kernel_rfl) (decide_eq_false c26) ?_
      refine wpRwI 19 (x := (decide ((mx vf1.W vf1.H) > 32))) (v := false) (by kernel_rfl) (decide_eq_false c26) ?_
      refine wpRwI 20 (x := (decide ((mx vf1.W vf1.H) > 32))) (v := false) (by kernel_rfl) (decide_eq_false c26) ?_
      refine condF (by kernel_rfl) ?_
      refine wp_seq_k (fun K29 hK30 => ?_)
      refine wp_region_lit ?_
      refine seqL1 (by kernel_rfl) ?_
      refine seqK rfl (does_run (run_load rfl Tryd.underlying27 rfl (by kernel_rfl : _ = Value.pointer (some ⟨b7, 3, none⟩)) (HS9.cell 3)) ?_)
      refine seqL2 (by kernel_rfl) ?_
      refine seqK rfl (does_run (run_load rfl Tryd.underlying3 rfl (by kernel_rfl : _ = Value.pointer (some ⟨b7, 0, none⟩)) (HS9.cell 0)) ?_)
      refine seqL1 (by kernel_rfl) ?_
      refine seqK rfl (does_run (run_load rfl Tryd.underlying3 rfl (by kernel_rfl : _ = Value.pointer (some ⟨b7, 1, none⟩)) (HS9.cell 1)) ?_)
      refine seqS3 (a' := ⟨#[.agg #[iV vf1.W, iV vf1.H, .slice none 0 0, .slice A2 vf1.Counts.length c3], .pointer (some ⟨b7, 0, none⟩), iV 0, uV, uV, uV, .bool false, .pointer (some ⟨b7, 0, none⟩), iV vf1.W, .pointer (some ⟨b7, 1, none⟩), iV vf1.H, iV (mn vf1.W vf1.H), .bool false, .bool false, .pointer (some ⟨b7, 0, none⟩), iV vf1.W, .pointer (some ⟨b7, 1, none⟩), iV vf1.H, iV (mx vf1.W vf1.H), .bool false, .bool false, .bool ((vf1.Counts.length : Int) != (w64 (vf1.W * vf1.H))), .pointer (some ⟨b7, 3, none⟩), .slice A2 vf1.Counts.length c3, iV (vf1.Counts.length : Int), .pointer (some ⟨b7, 0, none⟩), iV vf1.W, .pointer (some ⟨b7, 1, none⟩), iV vf1.H, iV (w64 (vf1.W * vf1.H)), .bool ((vf1.Counts.length : Int) != (w64 (vf1.W * vf1.H))), uV, uV, uV, uV, uV, uV, uV, uV, uV, uV, uV, uV, uV, uV, uV, uV, uV, uV, uV, uV, uV, uV, uV, uV, uV, uV, uV, uV, uV, uV, uV], []⟩) (by kernel_rfl) ?_
      refine wpList_nil ?_
      refine hK30 _ _ ?_
      have hq_ := ite_some h; clear h; rcases hq_ with ⟨c32, h⟩ | ⟨c32, h⟩
      · have c32 : (vf1.Counts.length : Int) ≠ (w64 (vf1.W * vf1.H)) := c32
        refine wpRwI 21 (x := ((vf1.Counts.length : Int) != (w64 (vf1.W * vf1.H)))) (v := true) (by kernel_rfl) (bne_iff_ne.mpr c32) ?_
        refine wpRwI 30 (x := ((vf1.Counts.length : Int) != (w64 (vf1.W * vf1.H)))) (v := true) (by kernel_rfl) (bne_iff_ne.mpr c32) ?_
        refine condT (by kernel_rfl) ?_
        refine wp_seq_k (fun K33 hK34 => ?_)
        refine wp_region_lit ?_
        refine seqS1 (a' := ⟨#[.agg #[iV vf1.W, iV vf1.H, .slice none 0 0, .slice A2 vf1.Counts.length c3], .pointer (some ⟨b7, 0, none⟩), iV 3, uV, uV, uV, .bool false, .pointer (some ⟨b7, 0, none⟩), iV vf1.W, .pointer (some ⟨b7, 1, none⟩), iV vf1.H, iV (mn vf1.W vf1.H), .bool false, .bool false, .pointer (some ⟨b7, 0, none⟩), iV vf1.W, .pointer (some ⟨b7, 1, none⟩), iV vf1.H, iV (mx vf1.W vf1.H), .bool false, .bool false, .bool true, .pointer (some ⟨b7, 3, none⟩), .slice A2 vf1.Counts.length c3, iV (vf1.Counts.length : Int), .pointer (some ⟨b7, 0, none⟩), iV vf1.W, .pointer (some ⟨b7, 1, none⟩), iV vf1.H, iV (w64 (vf1.W * vf1.H)), .bool true, uV, uV, uV, uV, uV, uV, uV, uV, uV, uV, uV, uV, uV, uV, uV, uV, uV, uV, uV, uV, uV, uV, uV, uV, uV, uV, uV, uV, uV, uV, uV], []⟩) (by kernel_rfl) ?_
        refine wpList_nil ?_
        refine hK34 _ _ ?_
        refine wp_ret ?_
        refine hr16 _ _ ?_
        refine hret _ _ ?_
        refine ends_still (v := Value.int .i64 3) (by kernel_rfl) (by kernel_rfl) ?_
        have HS68 := HS9.drop
        injection h with h
        subst h
        exact ⟨f, rfl, FM.le.refl _, HS68⟩
      · have c32 : ¬ ((vf1.Counts.length : Int) ≠ (w64 (vf1.W * vf1.H))) := c32
        refine wpRwI 21 (x := ((vf1.Counts.length : Int) != (w64 (vf1.W * vf1.H)))) (v := false) (by kernel_rfl) (bne_eq_false_iff_eq.mpr (Decidable.of_not_not c32)) ?_
        refine wpRwI 30 (x := ((vf1.Counts.length : Int) != (w64 (vf1.W * vf1.H)))) (v := false) (by kernel_rfl) (bne_eq_false_iff_eq.mpr (Decidable.of_not_not c32)) ?_
        refine condF (by kernel_rfl) ?_
        refine wp_seq_k (fun K35 hK36 => ?_)
        refine wp_region_lit ?_
        refine seqL1 (by kernel_rfl) ?_
        refine seqK rfl (does_run (run_load rfl Tryd.underlying27 rfl (by kernel_rfl : _ = Value.pointer (some ⟨b7, 3, none⟩)) (HS9.cell 3)) ?_)
        have hq_ := bind_some h; clear h; obtain ⟨vt37, hc38, h⟩ := hq_
        refine seqK rfl (does_call (f := 26) (args := #[.slice A2 vf1.Counts.length c3, .func (.func 27) #[] #[]]) (by kernel_rfl) (slices_ContainsFunc_int__frame_Check_1.calls k A2 c3 vf1.Counts HS9 HR4 vt37 hc38) ?_)
        rintro _ W41 ⟨f39, rfl, L40, HS42⟩
        refine ⟨_, rfl, ?_⟩
        refine seqS1 (a' := ⟨#[.agg #[iV vf1.W, iV vf1.H, .slice none 0 0, .slice A2 vf1.Counts.length c3], .pointer (some ⟨b7, 0, none⟩), iV 0, uV, uV, uV, .bool false, .pointer (some ⟨b7, 0, none⟩), iV vf1.W, .pointer (some ⟨b7, 1, none⟩), iV vf1.H, iV (mn vf1.W vf1.H), .bool false, .bool false, .pointer (some ⟨b7, 0, none⟩), iV vf1.W, .pointer (some ⟨b7, 1, none⟩), iV vf1.H, iV (mx vf1.W vf1.H), .bool false, .bool false, .bool false, .pointer (some ⟨b7, 3, none⟩), .slice A2 vf1.Counts.length c3, iV (vf1.Counts.length : Int), .pointer (some ⟨b7, 0, none⟩), iV vf1.W, .pointer (some ⟨b7, 1, none⟩), iV vf1.H, iV (w64 (vf1.W * vf1.H)), .bool false, .bool vt37, .pointer (some ⟨b7, 3, none⟩), .slice A2 vf1.Counts.length c3, .bool vt37, uV, uV, uV, uV, uV, uV, uV, uV, uV, uV, uV, uV, uV, uV, uV, uV, uV, uV, uV, uV, uV, uV, uV, uV, uV, uV, uV], []⟩) (by kernel_rfl) ?_
        refine wpList_nil ?_
        refine hK36 _ _ ?_
        have hq_ := ite_some h; clear h; rcases hq_ with ⟨c44, h⟩ | ⟨c44, h⟩
        · have c44 : vt37 = true := c44
          refine wpRwI 31 (x := vt37) (v := true) (by kernel_rfl) c44 ?_
          refine wpRwI 34 (x := vt37) (v := true) (by kernel_rfl) c44 ?_
          refine condT (by kernel_rfl) ?_
          refine wp_seq_k (fun K45 hK46 => ?_)
          refine wp_region_lit ?_
          refine seqS1 (a' := ⟨#[.agg #[iV vf1.W, iV vf1.H, .slice none 0 0, .slice A2 vf1.Counts.length c3], .pointer (some ⟨b7, 0, none⟩), iV 4, uV, uV, uV, .bool false, .pointer (some ⟨b7, 0, none⟩), iV vf1.W, .pointer (some ⟨b7, 1, none⟩), iV vf1.H, iV (mn vf1.W vf1.H), .bool false, .bool false, .pointer (some ⟨b7, 0, none⟩), iV vf1.W, .pointer (some ⟨b7, 1, none⟩), iV vf1.H, iV (mx vf1.W vf1.H), .bool false, .bool false, .bool false, .pointer (some ⟨b7, 3, none⟩), .slice A2 vf1.Counts.length c3, iV (vf1.Counts.length : Int), .pointer (some ⟨b7, 0, none⟩), iV vf1.W, .pointer (some ⟨b7, 1, none⟩), iV vf1.H, iV (w64 (vf1.W * vf1.H)), .bool false, .bool true, .pointer (some ⟨b7, 3, none⟩), .slice A2 vf1.Counts.length c3, .bool true, uV, uV, uV, uV, uV, uV, uV, uV, uV, uV, uV, uV, uV, uV, uV, uV, uV, uV, uV, uV, uV, uV, uV, uV, uV, uV, uV], []⟩) (by kernel_rfl) ?_
          refine wpList_nil ?_
          refine hK46 _ _ ?_
          refine wp_ret ?_
          refine hr16 _ _ ?_
          refine hret _ _ ?_
          refine ends_still (v := Value.int .i64 4) (by kernel_rfl) (by kernel_rfl) ?_
          have HS69 := HS42.drop
          injection h with h
          subst h
          exact ⟨f39, rfl, L40, HS69⟩
        · have c44 : ¬ (vt37 = true) := c44
          refine wpRwI 31 (x := vt37) (v := false) (by kernel_rfl) (Bool.eq_false_iff.mpr c44) ?_
          refine wpRwI 34 (x := vt37) (v := false) (by kernel_rfl) (Bool.eq_false_iff.mpr c44) ?_
          refine condF (by kernel_rfl) ?_
          refine wp_seq_k (fun K47 hK48 => ?_)
          refine wp_region_lit ?_
          refine seqL1 (by kernel_rfl) ?_
          refine seqK rfl (does_run (run_load rfl Tryd.underlying31 rfl (by kernel_rfl : _ = Value.pointer (some ⟨b7, 2, none⟩)) (HS42.cell 2)) ?_)
          refine seqS3 (a' := ⟨#[.agg #[iV vf1.W, iV vf1.H, .slice none 0 0, .slice A2 vf1.Counts.length c3], .pointer (some ⟨b7, 0, none⟩), iV 0, uV, uV, uV, .bool false, .pointer (some ⟨b7, 0, none⟩), iV vf1.W, .pointer (some ⟨b7, 1, none⟩), iV vf1.H, iV (mn vf1.W vf1.H), .bool false, .bool false, .pointer (some ⟨b7, 0, none⟩), iV vf1.W, .pointer (some ⟨b7, 1, none⟩), iV vf1.H, iV (mx vf1.W vf1.H), .bool false, .bool false, .bool false, .pointer (some ⟨b7, 3, none⟩), .slice A2 vf1.Counts.length c3, iV (vf1.Counts.length : Int), .pointer (some ⟨b7, 0, none⟩), iV vf1.W, .pointer (some ⟨b7, 1, none⟩), iV vf1.H, iV (w64 (vf1.W * vf1.H)), .bool false, .bool false, .pointer (some ⟨b7, 3, none⟩), .slice A2 vf1.Counts.length c3, .bool false, .bool false, .pointer (some ⟨b7, 2, none⟩), .slice none 0 0, iV 0, .bool false, uV, uV, uV, uV, uV, uV, uV, uV, uV, uV, uV, uV, uV, uV, uV, uV, uV, uV, uV, uV, uV, uV], []⟩) (by kernel_rfl) ?_
          refine wpList_nil ?_
          refine hK48 _ _ ?_
          refine condF (by kernel_rfl) ?_
          refine wp_skip ?_
          refine hn15 _ _ ?_
          refine hK12 _ _ ?_
          refine wp_seq_k (fun K49 hK50 => ?_)
          refine wp_seq_k (fun K51 hK52 => ?_)
          refine wp_region_lit ?_
          refine seqL1 (by kernel_rfl) ?_
          refine seqK rfl (does_run (run_load rfl Tryd.underlying31 rfl (by kernel_rfl : _ = Value.pointer (some ⟨b7, 2, none⟩)) (HS42.cell 2)) ?_)
          refine seqS2 (a' := ⟨#[.agg #[iV vf1.W, iV vf1.H, .slice none 0 0, .slice A2 vf1.Counts.length c3], .pointer (some ⟨b7, 0, none⟩), iV 0, uV, uV, uV, .bool false, .pointer (some ⟨b7, 0, none⟩), iV vf1.W, .pointer (some ⟨b7, 1, none⟩), iV vf1.H, iV (mn vf1.W vf1.H), .bool false, .bool false, .pointer (some ⟨b7, 0, none⟩), iV vf1.W, .pointer (some ⟨b7, 1, none⟩), iV vf1.H, iV (mx vf1.W vf1.H), .bool false, .bool false, .bool false, .pointer (some ⟨b7, 3, none⟩), .slice A2 vf1.Counts.length c3, iV (vf1.Counts.length : Int), .pointer (some ⟨b7, 0, none⟩), iV vf1.W, .pointer (some ⟨b7, 1, none⟩), iV vf1.H, iV (w64 (vf1.W * vf1.H)), .bool false, .bool false, .pointer (some ⟨b7, 3, none⟩), .slice A2 vf1.Counts.length c3, .bool false, .bool false, .pointer (some ⟨b7, 2, none⟩), .slice none 0 0, iV 0, .bool false, .pointer (some ⟨b7, 2, none⟩), .slice none 0 0, iV 0, iV 0, uV, uV, uV, uV, uV, uV, uV, uV, uV, uV, uV, uV, uV, uV, uV, uV, uV, uV], []⟩) (by kernel_rfl) ?_
          refine wpList_nil ?_
          refine hK52 _ _ ?_
          refine blockK (fun B53 hx54 hn55 hr56 ho57 hp58 => ?_)
          refine onceK ?_
          refine wp_seq_k (fun K60 hK61 => ?_)
          refine wp_region_lit ?_
          refine seqS1 (a' := ⟨#[.agg #[iV vf1.W, iV vf1.H, .slice none 0 0, .slice A2 vf1.Counts.length c3], .pointer (some ⟨b7, 0, none⟩), iV 0, uV, uV, uV, .bool false, .pointer (some ⟨b7, 0, none⟩), iV vf1.W, .pointer (some ⟨b7, 1, none⟩), iV vf1.H, iV (mn vf1.W vf1.H), .bool false, .bool false, .pointer (some ⟨b7, 0, none⟩), iV vf1.W, .pointer (some ⟨b7, 1, none⟩), iV vf1.H, iV (mx vf1.W vf1.H), .bool false, .bool false, .bool false, .pointer (some ⟨b7, 3, none⟩), .slice A2 vf1.Counts.length c3, iV (vf1.Counts.length : Int), .pointer (some ⟨b7, 0, none⟩), iV vf1.W, .pointer (some ⟨b7, 1, none⟩), iV vf1.H, iV (w64 (vf1.W * vf1.H)), .bool false, .bool false, .pointer (some ⟨b7, 3, none⟩), .slice A2 vf1.Counts.length c3, .bool false, .bool false, .pointer (some ⟨b7, 2, none⟩), .slice none 0 0, iV 0, .bool false, .pointer (some ⟨b7, 2, none⟩), .slice none 0 0, iV 0, iV 0, .bool false, uV, uV, uV, uV, uV, uV, uV, uV, uV, uV, uV, uV, uV, uV, uV, uV, uV], []⟩) (by kernel_rfl) ?_
          refine wpList_nil ?_
          refine hK61 _ _ ?_
          refine wp_seq_k (fun K62 hK63 => ?_)
          refine condF (by kernel_rfl) ?_
          refine wp_exit ?_
          refine hx54 _ _ ?_
          refine hK50 _ _ ?_
          refine wp_seq_k (fun K64 hK65 => ?_)
          refine wp_region_lit ?_
          refine seqS1 (a' := ⟨#[.agg #[iV vf1.W, iV vf1.H, .slice none 0 0, .slice A2 vf1.Counts.length c3], .pointer (some ⟨b7, 0, none⟩), iV 0, uV, uV, uV, .bool false, .pointer (some ⟨b7, 0, none⟩), iV vf1.W, .pointer (some ⟨b7, 1, none⟩), iV vf1.H, iV (mn vf1.W vf1.H), .bool false, .bool false, .pointer (some ⟨b7, 0, none⟩), iV vf1.W, .pointer (some ⟨b7, 1, none⟩), iV vf1.H, iV (mx vf1.W vf1.H), .bool false, .bool false, .bool false, .pointer (some ⟨b7, 3, none⟩), .slice A2 vf1.Counts.length c3, iV (vf1.Counts.length : Int), .pointer (some ⟨b7, 0, none⟩), iV vf1.W, .pointer (some ⟨b7, 1, none⟩), iV vf1.H, iV (w64 (vf1.W * vf1.H)), .bool false, .bool false, .pointer (some ⟨b7, 3, none⟩), .slice A2 vf1.Counts.length c3, .bool false, .bool false, .pointer (some ⟨b7, 2, none⟩), .slice none 0 0, iV 0, .bool false, .pointer (some ⟨b7, 2, none⟩), .slice none 0 0, iV 0, iV 0, .bool false, uV, uV, uV, uV, uV, uV, uV, uV, uV, uV, uV, uV, uV, uV, uV, uV, uV], []⟩) (by kernel_rfl) ?_
          refine wpList_nil ?_
          refine hK65 _ _ ?_
          refine wp_ret ?_
          refine hret _ _ ?_
          refine ends_still (v := Value.int .i64 0) (by kernel_rfl) (by kernel_rfl) ?_
          have HS70 := HS42.drop
          injection h with h
          subst h
          exact ⟨f39, rfl, L40, HS70⟩

set_option maxRecDepth 100000 in
set_option maxHeartbeats 4000000 in
theorem slices_Chunk_int.calls (k : Nat) (A2 : Option Addr) (c3 : Nat) (s1 : List Int) (n5 : Int) {t w : World} {f : FM} {H : List Seg} (HS : St t w f (H)) (HR4 : SlR (tInt .i64) f A2 c3 s1) (rr1 : List Int) (rr2 : Int) (h : slices_Chunk_int k s1 n5 = some (rr1, rr2)) :
    Calls Tryd.prog 16 #[.slice A2 s1.length c3, .int .i64 n5] w (fun e w' => ∃ (g : FM) (b33 : Nat) (A34 : Option Addr) (c35 : Nat) (b36 : Nat), e = .returned (Value.func (.func 30) #[] #[.pointer (some ⟨b33, 0, none⟩), .pointer (some ⟨b36, 0, none⟩)]) ∧ FM.le f g ∧ St t w' g (H) ∧ g b33 = some (.cells #[.slice A34 rr1.length c35] 27 (0, 0)) ∧ SlR (tInt .i64) g A34 c35 rr1 ∧ g b36 = some (.cells #[.int .i64 rr2] 3 (0, 0))) := by
  unfold slices_Chunk_int at h
  refine enter Tryd.func16 rfl (tm := #[.slice A2 s1.length c3, iV n5, uV, uV, uV, uV, uV, uV, uV]) (by kernel_rfl) ?_
  intro B hret hnor hnp
  refine wp_seq_k (fun K6 hK7 => ?_)
  refine wp_region_lit ?_
  refine seqK rfl (does_box (cs := #[.slice A2 s1.length c3]) rfl (by kernel_rfl : _ = Value.slice A2 s1.length c3) rfl HS ?_)
  intro b8 W9 HS10
  refine seqK rfl (does_box (cs := #[.int .i64 n5]) rfl (by kernel_rfl : _ = Value.int .i64 n5) rfl HS10 ?_)
  intro b12 W13 HS14
  refine seqS1 (a' := ⟨#[.slice A2 s1.length c3, iV n5, .pointer (some ⟨b8, 0, none⟩), .pointer (some ⟨b12, 0, none⟩), .nilFunc, uV, uV, uV, uV], []⟩) (by kernel_rfl) ?_
  refine wpList_nil ?_
  refine hK7 _ _ ?_
  refine wp_seq_k (fun K16 hK17 => ?_)
  refine wp_seq_k (fun K18 hK19 => ?_)
  refine wp_region_lit ?_
  refine seqK rfl (does_run (run_load rfl Tryd.underlying3 rfl (by kernel_rfl : _ = Value.pointer (some ⟨b12, 0, none⟩)) (HS14.cell 0)) ?_)
  refine seqS1 (a' := ⟨#[.slice A2 s1.length c3, iV n5, .pointer (some ⟨b8, 0, none⟩), .pointer (some ⟨b12, 0, none⟩), .nilFunc, iV n5, .bool (decide (n5 < 1)), uV, uV], []⟩) (by kernel_rfl) ?_
  refine wpList_nil ?_
  refine hK19 _ _ ?_
  have hq_ := ite_some h; clear h; rcases hq_ with ⟨c21, h⟩ | ⟨c21, h⟩
  · have c21 : n5 < 1 := c21
    refine wpRwI 6 (x := (decide (n5 < 1))) (v := true) (by kernel_rfl) (decide_eq_true c21) ?_
    refine condT (by kernel_rfl) ?_
    exact nomatch h
  · have c21 : ¬ (n5 < 1) := c21
    refine wpRwI 6 (x := (decide (n5 < 1))) (v := false) (by kernel_rfl) (decide_eq_false c21) ?_
    refine condF (by kernel_rfl) ?_
    refine wp_skip ?_
    refine hK17 _ _ ?_
    refine wp_seq_k (fun K22 hK23 => ?_)
    refine wp_region_lit ?_
    refine seqS2 (a' := ⟨#[.slice A2 s1.length c3, iV n5, .pointer (some ⟨b8, 0, none⟩), .pointer (some ⟨b12, 0, none⟩), .func (.func 30) #[] #[.pointer (some ⟨b8, 0, none⟩), .pointer (some ⟨b12, 0, none⟩)], iV n5, .bool false, uV, .func (.func 30) #[] #[.pointer (some ⟨b8, 0, none⟩), .pointer (some ⟨b12, 0, none⟩)]], []⟩) (by kernel_rfl) ?_
    refine wpList_nil ?_
    refine hK23 _ _ ?_
    refine wp_ret ?_
    refine hret _ _ ?_
    have HS24 := HS14.u1
    obtain ⟨f25, L26, HS27, HF28⟩ := HS24.freezeB
    obtain ⟨f29, L30, HS31, HF32⟩ := HS27.freezeB
    refine ends_still (v := Value.func (.func 30) #[] #[.pointer (some ⟨b8, 0, none⟩), .pointer (some ⟨b12, 0, none⟩)]) (by kernel_rfl) (by kernel_rfl) ?_
    injection h with h
    injection h with h0_ h
    subst h0_ h
    exact ⟨f29, b8, A2, c3, b12, rfl, (L26.trans L30), HS31, (L30 _ _ HF28), (HR4.mono (L26.trans L30)), HF32⟩

set_option maxRecDepth 100000 in
set_option maxHeartbeats 4000000 in
theorem slices_Chunk_int_1.iter (k : Nat) (b1 : Nat) (A3 : Option Addr) (c4 : Nat) (b7 : Nat) (x2 : List Int) (x8 : Int) {f : FM} (HR5 : SlR (tInt .i64) f A3 c4 x2) (HF6 : f b1 = some (.cells #[.slice A3 x2.length c4] 27 (0, 0))) (HF9 : f b7 = some (.cells #[.int .i64 x8] 3 (0, 0))) (xs : List (List Int)) (h : slices_Chunk_int_1 k x2 x8 = some xs) :
    Iter Tryd.prog 30 #[Value.pointer (some ⟨b1, 0, none⟩), Value.pointer (some ⟨b7, 0, none⟩)] (fun (g_ : FM) (x_ : (List Int)) vs_ => ∃ (A_0 : Option Addr) (c_0 : Nat), vs_ = #[Value.slice A_0 x_.length c_0] ∧ SlR (tInt .i64) g_ A_0 c_0 x_) xs f := by
  unfold slices_Chunk_int_1 at h
  obtain ⟨v_, hX, hv_⟩ : ∃ v_, xs = [] ++ v_ ∧ xs = v_ := ⟨xs, rfl, rfl⟩
  rw [hv_] at h
  intro l t w g0 H KJ KX hl0 hKJ HS hmJ hmX hY
  refine enterI Tryd.func30 rfl (tm := #[.func (.yield l) #[] #[], .pointer (some ⟨b1, 0, none⟩), .pointer (some ⟨b7, 0, none⟩), uV, uV, uV, uV, uV, uV, uV, uV, uV, uV, uV, uV, uV, uV, uV, uV, uV, uV, uV, uV, uV, uV, uV, uV, uV, uV, uV, uV]) (by kernel_rfl) ?_
  intro B hret hnor hnp
  refine Rwp_seq_k (fun K10 hK11 => ?_)
  refine Rwp_region_lit (by kernel_rfl) ?_
  refine seqS1 (a' := ⟨#[.func (.yield l) #[] #[], .pointer (some ⟨b1, 0, none⟩), .pointer (some ⟨b7, 0, none⟩), uV, iV 0, uV, uV, uV, uV, uV, uV, uV, uV, uV, uV, uV, uV, uV, uV, uV, uV, uV, uV, uV, uV, uV, uV, uV, uV, uV, uV], []⟩) (by kernel_rfl) ?_
  refine RwpList_nil ?_
  refine hK11 _ _ ?_
  refine RblockK (fun B12 hx13 hn14 hr15 ho16 hp17 => ?_)
  refine RloopK (fun n_ a_ w_ => ∃ (f22 : FM) (i27 : Int) (j26 : Nat → Value) (H : List Seg) (pre_ v_ : List _), FM.le g0 f22 ∧ St t w_ f22 (H) ∧ slices_Chunk_int_1.l0 k x2 x8 n_ i27 = some v_ ∧ xs = pre_ ++ v_ ∧ KJ pre_ f22 H ∧ a_ = ⟨#[.func (.yield l) #[] #[], .pointer (some ⟨b1, 0, none⟩), .pointer (some ⟨b7, 0, none⟩), uV, iV i27, (j26 0), (j26 1), (j26 2), (j26 3), (j26 4), (j26 5), (j26 6), (j26 7), (j26 8), (j26 9), (j26 10), (j26 11), (j26 12), (j26 13), (j26 14), (j26 15), (j26 16), (j26 17), (j26 18), (j26 19), (j26 20), (j26 21), (j26 22), (j26 23), (j26 24), (j26 25)], []⟩) k ⟨g0, 0, (fun i_ => [undef, undef, undef, undef, undef, undef, undef, undef, undef, undef, undef, undef, undef, undef, undef, undef, undef, undef, undef, undef, undef, undef, undef, undef, undef, undef].getD i_ undef), H, [], v_, (FM.le.refl _), HS, h, hX, hKJ, (by kernel_rfl)⟩ ?_
  clear h
  rintro n21 _ W24 ⟨f22, i27, j26, H, pre28, v29, L23, HS25, h, hX30, hK31, rfl⟩ K19 hK20
  obtain _ | n21 := n21
  · exact nomatch h
  simp only [slices_Chunk_int_1.l0] at h
  refine Rwp_seq_k (fun K32 hK33 => ?_)
  refine Rwp_seq_k (fun K34 hK35 => ?_)
  refine Rwp_region_lit (by kernel_rfl) ?_
  refine seqL1 (by kernel_rfl) ?_
  refine seqK rfl (does_run (run_load rfl Tryd.underlying27 rfl (by kernel_rfl : _ = Value.pointer (some ⟨b1, 0, none⟩)) (HS25.fcell HF6 (hl0.trans L23) 0)) ?_)
  refine seqS2 (a' := ⟨#[.func (.yield l) #[] #[], .pointer (some ⟨b1, 0, none⟩), .pointer (some ⟨b7, 0, none⟩), uV, iV i27, (j26 0), iV i27, .slice A3 x2.length c4, iV (x2.length : Int), .bool (decide (i27 < (x2.length : Int))), (j26 5), (j26 6), (j26 7), (j26 8), (j26 9), (j26 10), (j26 11), (j26 12), (j26 13), (j26 14), (j26 15), (j26 16), (j26 17), (j26 18), (j26 19), (j26 20), (j26 21), (j26 22), (j26 23), (j26 24), (j26 25)], []⟩) (by kernel_rfl) ?_
  refine RwpList_nil ?_
  refine hK35 _ _ ?_
  have hq_ := ite_some h; clear h; rcases hq_ with ⟨c37, h⟩ | ⟨c37, h⟩
  · have c37 : i27 < (x2.length : Int) := c37
    refine RwpRwI 9 (x := (decide (i27 < (x2.length : Int)))) (v := true) (by kernel_rfl) (decide_eq_true c37) ?_
    refine RcondT (by kernel_rfl) ?_
    refine Rwp_skip ?_
    refine hK33 _ _ ?_
    refine Rwp_seq_k (fun K38 hK39 => ?_)
    refine RblockK (fun B40 hx41 hn42 hr43 ho44 hp45 => ?_)
    refine Rwp_seq_k (fun K47 hK48 => ?_)
    refine RheldG (by kernel_rfl) (S := Sg t f22 (H) []) (n := 7) (by kernel_rfl) rfl HS25 ?_
    intro W49 HS50
    refine takeGQ 0 [] rfl (by kernel_rfl) (by kernel_rfl) (by kernel_rfl) (by kernel_rfl) (by kernel_rfl) (by kernel_rfl) (fun ch_ a_ w_ q_ => (fun ch_ a_ w_ q_ => hnp ch_ a_ w_ (hp17 ch_ a_ w_ q_)) ch_ a_ w_ (hp45 ch_ a_ w_ q_)) (Sg.g0 (Sx.of [] (FM.le.refl _) HS50)) (fun w_ hw_ => by obtain ⟨g_, hl_, hS_⟩ := hw_.st; exact run_load rfl Tryd.underlying3 rfl (by kernel_rfl : _ = Value.pointer (some ⟨b7, 0, none⟩)) (hS_.fcell HF9 ((hl0.trans L23).trans hl_) 0)) ?_
    refine takeGQ 1 [] rfl (by kernel_rfl) (by kernel_rfl) (by kernel_rfl) (by kernel_rfl) (by kernel_rfl) (by kernel_rfl) (fun ch_ a_ w_ q_ => (fun ch_ a_ w_ q_ => hnp ch_ a_ w_ (hp17 ch_ a_ w_ q_)) ch_ a_ w_ (hp45 ch_ a_ w_ q_)) (Sg.g0 (Sx.of [] (FM.le.refl _) HS50)) (fun w_ hw_ => by obtain ⟨g_, hl_, hS_⟩ := hw_.st; exact run_load rfl Tryd.underlying27 rfl (by kernel_rfl : _ = Value.pointer (some ⟨b1, 0, none⟩)) (hS_.fcell HF6 ((hl0.trans L23).trans hl_) 0)) ?_
    have hq_ := guard_some h; clear h; obtain ⟨c51, h⟩ := hq_
    have c51 : 0 ≤ i27 := c51
    have hq_ := guard_some h; clear h; obtain ⟨c52, h⟩ := hq_
    have c52 : i27 ≤ (x2.length : Int) := c52
    refine takeG [2] (n := 5) (fuel := 4) (l' := #[true, true, true, false, false, false, false]) (a' := ⟨#[.func (.yield l) #[] #[], .pointer (some ⟨b1, 0, none⟩), .pointer (some ⟨b7, 0, none⟩), uV, iV i27, (j26 0), iV i27, .slice A3 x2.length c4, iV (x2.length : Int), .bool true, (j26 5), (j26 6), (j26 7), iV x8, .slice A3 x2.length c4, iV i27, (j26 11), (j26 12), (j26 13), (j26 14), (j26 15), (j26 16), (j26 17), (j26 18), (j26 19), (j26 20), (j26 21), (j26 22), (j26 23), (j26 24), (j26 25)], []⟩) rfl (by kernel_rfl) (by kernel_rfl) (by kernel_rfl) (fun ch_ a_ w_ q_ => (fun ch_ a_ w_ q_ => hnp ch_ a_ w_ (hp17 ch_ a_ w_ q_)) ch_ a_ w_ (hp45 ch_ a_ w_ q_)) (Sg.g0 (Sx.of [] (FM.le.refl _) HS50)) ?_
    refine takeGE 3 (by kernel_rfl) rfl (by kernel_rfl) (does_cutL (e := (tInt .i64)) (xs := x2) rfl Tryd.underlying27 (by kernel_rfl) (by kernel_rfl : _ = Value.slice A3 x2.length c4) (by kernel_rfl : _ = Value.int .i64 i27) c51 c52 (HR5.mono (hl0.trans L23)) ?_)
    intro A53 c54 HR55
    refine ⟨(Sg.g0 (Sx.of [] (FM.le.refl _) HS50)), ?_⟩
    refine takeG [4, 5, 6] (n := 3) (fuel := 0) (l' := #[true, true, true, true, true, true, true]) (a' := ⟨#[.func (.yield l) #[] #[], .pointer (some ⟨b1, 0, none⟩), .pointer (some ⟨b7, 0, none⟩), uV, iV i27, iV (mn x8 ((x2.drop (i27).toNat).length : Int)), iV i27, .slice A3 x2.length c4, iV (x2.length : Int), .bool true, (j26 5), (j26 6), (j26 7), iV x8, .slice A3 x2.length c4, iV i27, .slice A53 (x2.drop (i27).toNat).length c54, iV ((x2.drop (i27).toNat).length : Int), iV (mn x8 ((x2.drop (i27).toNat).length : Int)), (j26 14), (j26 15), (j26 16), (j26 17), (j26 18), (j26 19), (j26 20), (j26 21), (j26 22), (j26 23), (j26 24), (j26 25)], []⟩) rfl (by kernel_rfl) (by kernel_rfl) (by kernel_rfl) (fun ch_ a_ w_ q_ => (fun ch_ a_ w_ q_ => hnp ch_ a_ w_ (hp17 ch_ a_ w_ q_)) ch_ a_ w_ (hp45 ch_ a_ w_ q_)) (Sg.g0 (Sx.of [] (FM.le.refl _) HS50)) ?_
    refine RdoneG (by kernel_rfl) ?_ _
    refine hK48 _ _ ?_
    refine Rwp_seq_k (fun K56 hK57 => ?_)
    refine RregionY 10 (by kernel_rfl) ?_
    refine seqL1 (by kernel_rfl) ?_
    refine seqK rfl (does_run (run_load rfl Tryd.underlying27 rfl (by kernel_rfl : _ = Value.pointer (some ⟨b1, 0, none⟩)) (HS50.fcell HF6 (hl0.trans L23) 0)) ?_)
    have hq_ := guard_some h; clear h; obtain ⟨c58, h⟩ := hq_
    have c58 : i27 ≤ (w64 (i27 + (mn x8 ((x2.drop (i27).toNat).length : Int)))) := c58
    have hq_ := guard_some h; clear h; obtain ⟨c59, h⟩ := hq_
    have c59 : (w64 (i27 + (mn x8 ((x2.drop (i27).toNat).length : Int)))) ≤ (x2.length : Int) := c59
    refine seqL7 (by kernel_rfl) ?_
    refine seqK rfl (does_cutLHM (e := (tInt .i64)) (xs := x2) rfl Tryd.underlying27 (by kernel_rfl) (by kernel_rfl : _ = Value.slice A3 x2.length c4) (by kernel_rfl : _ = Value.int .i64 i27) (by kernel_rfl : _ = Value.int .i64 (w64 (i27 + (mn x8 ((x2.drop (i27).toNat).length : Int))))) (by kernel_rfl : _ = Value.int .i64 (w64 (i27 + (mn x8 ((x2.drop (i27).toNat).length : Int))))) c51 c58 c59 (HR5.mono (hl0.trans L23)) ?_)
    intro A60 c61 HR62
    have hq_ := bind_some h; clear h; obtain ⟨z63, h, hz_⟩ := hq_; injection hz_ with hz_; have hX64 := hX30.trans (congrArg (fun y_ => pre28 ++ y_) hz_.symm)
    have hy65 := hY pre28 ((x2.take (w64 (i27 + (mn x8 ((x2.drop (i27).toNat).length : Int)))).toNat).drop (i27).toNat) z63 #[Value.slice A60 ((x2.take (w64 (i27 + (mn x8 ((x2.drop (i27).toNat).length : Int)))).toNat).drop (i27).toNat).length c61] W49 f22 [] H hX64 ⟨A60, c61, rfl, HR62⟩ hK31 HS50
    refine listN ?_
    refine yieldK (l := l) (vs := #[Value.slice A60 ((x2.take (w64 (i27 + (mn x8 ((x2.drop (i27).toNat).length : Int)))).toNat).drop (i27).toNat).length c61]) (by kernel_rfl) (by kernel_rfl) (by kernel_rfl) hy65 ?_
    rintro _ W66 ⟨f67, H, L68, HS69, (⟨rfl, hK70⟩ | ⟨rfl, hK70⟩)⟩
    · refine ⟨_, rfl, ?_⟩
      refine listR (by kernel_rfl) ?_
      have hX71 := hX64.trans (List.append_cons pre28 ((x2.take (w64 (i27 + (mn x8 ((x2.drop (i27).toNat).length : Int)))).toNat).drop (i27).toNat) z63)
      refine seqS1 (a' := ⟨#[.func (.yield l) #[] #[], .pointer (some ⟨b1, 0, none⟩), .pointer (some ⟨b7, 0, none⟩), uV, iV i27, iV (mn x8 ((x2.drop (i27).toNat).length : Int)), iV i27, .slice A3 x2.length c4, iV (x2.length : Int), .bool true, (j26 5), (j26 6), (j26 7), iV x8, .slice A3 x2.length c4, iV i27, .slice A53 (x2.drop (i27).toNat).length c54, iV ((x2.drop (i27).toNat).length : Int), iV (mn x8 ((x2.drop (i27).toNat).length : Int)), .func (.yield l) #[] #[], .slice A3 x2.length c4, iV i27, iV i27, iV (mn x8 ((x2.drop (i27).toNat).length : Int)), iV (w64 (i27 + (mn x8 ((x2.drop (i27).toNat).length : Int)))), iV i27, iV (mn x8 ((x2.drop (i27).toNat).length : Int)), iV (w64 (i27 + (mn x8 ((x2.drop (i27).toNat).length : Int)))), .slice A60 ((x2.take (w64 (i27 + (mn x8 ((x2.drop (i27).toNat).length : Int)))).toNat).drop (i27).toNat).length c61, .bool true, .bool false], []⟩) (by kernel_rfl) ?_
      refine RwpList_nil ?_
      refine hK57 _ _ ?_
      refine RcondF (by kernel_rfl) ?_
      refine Rwp_skip ?_
      refine hn42 _ _ ?_
      refine hK39 _ _ ?_
      refine Rwp_region_lit (by kernel_rfl) ?_
      refine seqL1 (by kernel_rfl) ?_
      refine seqK rfl (does_run (run_load rfl Tryd.underlying3 rfl (by kernel_rfl : _ = Value.pointer (some ⟨b7, 0, none⟩)) (HS69.fcell HF9 (hl0.trans (L23.trans L68)) 0)) ?_)
      refine seqS2 (a' := ⟨#[.func (.yield l) #[] #[], .pointer (some ⟨b1, 0, none⟩), .pointer (some ⟨b7, 0, none⟩), uV, iV (w64 (i27 + x8)), iV (mn x8 ((x2.drop (i27).toNat).length : Int)), iV i27, .slice A3 x2.length c4, iV (x2.length : Int), .bool true, iV i27, iV x8, iV (w64 (i27 + x8)), iV x8, .slice A3 x2.length c4, iV i27, .slice A53 (x2.drop (i27).toNat).length c54, iV ((x2.drop (i27).toNat).length : Int), iV (mn x8 ((x2.drop (i27).toNat).length : Int)), .func (.yield l) #[] #[], .slice A3 x2.length c4, iV i27, iV i27, iV (mn x8 ((x2.drop (i27).toNat).length : Int)), iV (w64 (i27 + (mn x8 ((x2.drop (i27).toNat).length : Int)))), iV i27, iV (mn x8 ((x2.drop (i27).toNat).length : Int)), iV (w64 (i27 + (mn x8 ((x2.drop (i27).toNat).length : Int)))), .slice A60 ((x2.take (w64 (i27 + (mn x8 ((x2.drop (i27).toNat).length : Int)))).toNat).drop (i27).toNat).length c61, .bool true, .bool false], []⟩) (by kernel_rfl) ?_
      refine RwpList_nil ?_
      refine hK20 n21 _ _ (Nat.lt_succ_self _) ?_
      exact ⟨f67, (w64 (i27 + x8)), (fun i_ => [Value.int .i64 (mn x8 ((x2.drop (i27).toNat).length : Int)), Value.int .i64 i27, Value.slice A3 x2.length c4, Value.int .i64 (x2.length : Int), Value.bool true, Value.int .i64 i27, Value.int .i64 x8, Value.int .i64 (w64 (i27 + x8)), Value.int .i64 x8, Value.slice A3 x2.length c4, Value.int .i64 i27, Value.slice A53 (x2.drop (i27).toNat).length c54, Value.int .i64 ((x2.drop (i27).toNat).length : Int), Value.int .i64 (mn x8 ((x2.drop (i27).toNat).length : Int)), Value.func (.yield l) #[] #[], Value.slice A3 x2.length c4, Value.int .i64 i27, Value.int .i64 i27, Value.int .i64 (mn x8 ((x2.drop (i27).toNat).length : Int)), Value.int .i64 (w64 (i27 + (mn x8 ((x2.drop (i27).toNat).length : Int)))), Value.int .i64 i27, Value.int .i64 (mn x8 ((x2.drop (i27).toNat).length : Int)), Value.int .i64 (w64 (i27 + (mn x8 ((x2.drop (i27).toNat).length : Int)))), Value.slice A60 ((x2.take (w64 (i27 + (mn x8 ((x2.drop (i27).toNat).length : Int)))).toNat).drop (i27).toNat).length c61, Value.bool true, Value.bool false].getD i_ undef), H, (pre28 ++ [((x2.take (w64 (i27 + (mn x8 ((x2.drop (i27).toNat).length : Int)))).toNat).drop (i27).toNat)]), z63, (L23.trans L68), HS69, h, hX71, hK70, (by kernel_rfl)⟩
    · refine ⟨_, rfl, ?_⟩
      refine listR (by kernel_rfl) ?_
      refine seqS1 (a' := ⟨#[.func (.yield l) #[] #[], .pointer (some ⟨b1, 0, none⟩), .pointer (some ⟨b7, 0, none⟩), uV, iV i27, iV (mn x8 ((x2.drop (i27).toNat).length : Int)), iV i27, .slice A3 x2.length c4, iV (x2.length : Int), .bool true, (j26 5), (j26 6), (j26 7), iV x8, .slice A3 x2.length c4, iV i27, .slice A53 (x2.drop (i27).toNat).length c54, iV ((x2.drop (i27).toNat).length : Int), iV (mn x8 ((x2.drop (i27).toNat).length : Int)), .func (.yield l) #[] #[], .slice A3 x2.length c4, iV i27, iV i27, iV (mn x8 ((x2.drop (i27).toNat).length : Int)), iV (w64 (i27 + (mn x8 ((x2.drop (i27).toNat).length : Int)))), iV i27, iV (mn x8 ((x2.drop (i27).toNat).length : Int)), iV (w64 (i27 + (mn x8 ((x2.drop (i27).toNat).length : Int)))), .slice A60 ((x2.take (w64 (i27 + (mn x8 ((x2.drop (i27).toNat).length : Int)))).toNat).drop (i27).toNat).length c61, .bool false, .bool true], []⟩) (by kernel_rfl) ?_
      refine RwpList_nil ?_
      refine hK57 _ _ ?_
      refine RcondT (by kernel_rfl) ?_
      refine Rwp_ret ?_
      refine hr43 _ _ ?_
      refine hr15 _ _ ?_
      refine hret _ _ ?_
      refine ends_still (v := Value.tuple #[]) (by kernel_rfl) (by kernel_rfl) ?_
      exact ⟨_, f67, H, rfl, (L23.trans L68), HS69, .inr ⟨pre28, ((x2.take (w64 (i27 + (mn x8 ((x2.drop (i27).toNat).length : Int)))).toNat).drop (i27).toNat), z63, hX64, hK70⟩⟩
  · have c37 : ¬ (i27 < (x2.length : Int)) := c37
    refine RwpRwI 9 (x := (decide (i27 < (x2.length : Int)))) (v := false) (by kernel_rfl) (decide_eq_false c37) ?_
    refine RcondF (by kernel_rfl) ?_
    refine Rwp_exit ?_
    refine hx13 _ _ ?_
    refine hnor _ _ ?_
    refine ends_still (v := Value.tuple #[]) (by kernel_rfl) (by kernel_rfl) ?_
    injection h with h
    have hx9_ := hX30
    rw [← h, List.append_nil] at hx9_
    exact ⟨_, f22, H, rfl, L23, HS25, .inl (by rw [hx9_]; exact hK31)⟩

set_option maxRecDepth 100000 in
set_option maxHeartbeats 4000000 in
theorem squeeze_writer_put.calls (k : Nat) (b1 : Nat) (A4 : Option Addr) (c5 : Nat) (s6 : Seg) (vw3 : S_writer) (v9 : Int) (n10 : Int) {t w : World} {f : FM} {H : List Seg} (HS : St t w f ([(b1, .cells #[.slice A4 vw3.out.length c5, .int .i64 vw3.used] 80 (0, 0))] :: s6 :: H)) (HO7 : Own (tInt .u8) 5 f A4 c5 s6 vw3.out) (rr1 : List Int) (rr2 : Int) (h : squeeze_writer_put k vw3 v9 n10 = some (rr1, rr2)) :
    Calls Tryd.prog 31 #[.pointer (some ⟨b1, 0, none⟩), .int .i64 v9, .int .i64 n10] w (fun e w' => ∃ (g : FM) (A342 : Option Addr) (c343 : Nat) (s344 : Seg), e = .returned (Value.tuple #[]) ∧ FM.le f g ∧ St t w' g (s344 :: [(b1, .cells #[.slice A342 rr1.length c343, .int .i64 rr2] 80 (0, 0))] :: H) ∧ Own (tInt .u8) 5 g A342 c343 s344 rr1) := by
  unfold squeeze_writer_put at h
  refine enter Tryd.func31 rfl (tm := #[.pointer (some ⟨b1, 0, none⟩), iV v9, iV n10, uV, uV, uV, uV, uV, uV, uV, uV, uV, uV, uV, uV, uV, uV, uV, uV, uV, uV, uV, uV, uV, uV, uV, uV, uV, uV, uV, uV, uV, uV, uV, uV, uV, uV, uV, uV, uV, uV, uV, uV, uV, uV, uV, uV, uV, uV, uV, uV, uV, uV, uV, uV, uV, uV, uV, uV, uV]) (by kernel_rfl) ?_
  intro B hret hnor hnp
  refine wp_seq_k (fun K11 hK12 => ?_)
  refine wp_region_lit ?_
  refine seqS3 (a' := ⟨#[.pointer (some ⟨b1, 0, none⟩), iV v9, iV (w64 (n10 - 1)), uV, uV, uV, iV n10, iV (w64 (n10 - 1)), uV, uV, uV, uV, uV, uV, uV, uV, uV, uV, uV, uV, uV, uV, uV, uV, uV, uV, uV, uV, uV, uV, uV, uV, uV, uV, uV, uV, uV, uV, uV, uV, uV, uV, uV, uV, uV, uV, uV, uV, uV, uV, uV, uV, uV, uV, uV, uV, uV, uV, uV, uV], []⟩) (by kernel_rfl) ?_
  refine wpList_nil ?_
  refine hK12 _ _ ?_
  refine blockK (fun B13 hx14 hn15 hr16 ho17 hp18 => ?_)
  have hq_ := bind_some h; clear h; obtain ⟨o222, hv338, h⟩ := hq_
  have J339 : ∀ (f327 : FM) (A333 : Option Addr) (c334 : Nat) (s335 : Seg) (x332 : List Int) (x337 : Int) (j331 : Nat → Value) (W329 : World) (a_ : Act), FM.le f f327 → some ((x332, x337)) = some o222 → St t W329 f327 ([(b1, .cells #[.slice A333 x332.length c334, .int .i64 x337] 80 (0, 0))] :: s335 :: H) → Own (tInt .u8) 5 f327 A333 c334 s335 x332 → a_ = ⟨#[.pointer (some ⟨b1, 0, none⟩), iV v9, (j331 0), uV, uV, uV, iV n10, iV (w64 (n10 - 1)), (j331 1), (j331 2), (j331 3), (j331 4), (j331 5), (j331 6), (j331 7), (j331 8), (j331 9), (j331 10), (j331 11), (j331 12), (j331 13), (j331 14), (j331 15), (j331 16), (j331 17), (j331 18), (j331 19), (j331 20), (j331 21), (j331 22), (j331 23), (j331 24), (j331 25), (j331 26), (j331 27), (j331 28), (j331 29), (j331 30), (j331 31), (j331 32), (j331 33), (j331 34), (j331 35), (j331 36), (j331 37), (j331 38), (j331 39), (j331 40), (j331 41), (j331 42), (j331 43), (j331 44), (j331 45), (j331 46), (j331 47), (j331 48), (j331 49), (j331 50), (j331 51), (j331 52)], []⟩ → B Exit.normal a_ W329 := by
    intro f327 A333 c334 s335 x332 x337 j331 W329 a_ L328 hj340 HS330 HO336 hfr_; subst hfr_
    injection hj340 with hj340; subst hj340; try dsimp only at h
    refine hnor _ _ ?_
    refine ends_still (v := Value.tuple #[]) (by kernel_rfl) (by kernel_rfl) ?_
    have HS341 := HS330.u1
    injection h with h
    injection h with h0_ h
    subst h0_ h
    exact ⟨f327, A333, c334, s335, rfl, L328, HS341, HO336⟩
  clear h; have h := hv338; clear hv338
  refine loopK (fun n_ a_ w_ => ∃ (f226 : FM) (A233 : Option Addr) (c234 : Nat) (s235 : Seg) (n231 : Int) (x232 : List Int) (x237 : Int) (j230 : Nat → Value), FM.le f f226 ∧ St t w_ f226 ([(b1, .cells #[.slice A233 x232.length c234, .int .i64 x237] 80 (0, 0))] :: s235 :: H) ∧ Own (tInt .u8) 5 f226 A233 c234 s235 x232 ∧ squeeze_writer_put.l0 k v9 n_ n231 x232 x237 = some o222 ∧ a_ = ⟨#[.pointer (some ⟨b1, 0, none⟩), iV v9, iV n231, uV, uV, uV, iV n10, iV (w64 (n10 - 1)), (j230 0), (j230 1), (j230 2), (j230 3), (j230 4), (j230 5), (j230 6), (j230 7), (j230 8), (j230 9), (j230 10), (j230 11), (j230 12), (j230 13), (j230 14), (j230 15), (j230 16), (j230 17), (j230 18), (j230 19), (j230 20), (j230 21), (j230 22), (j230 23), (j230 24), (j230 25), (j230 26), (j230 27), (j230 28), (j230 29), (j230 30), (j230 31), (j230 32), (j230 33), (j230 34), (j230 35), (j230 36), (j230 37), (j230 38), (j230 39), (j230 40), (j230 41), (j230 42), (j230 43), (j230 44), (j230 45), (j230 46), (j230 47), (j230 48), (j230 49), (j230 50), (j230 51)], []⟩) k ⟨f, A4, c5, s6, (w64 (n10 - 1)), vw3.out, vw3.used, (fun i_ => [undef, undef, undef, undef, undef, undef, undef, undef, undef, undef, undef, undef, undef, undef, undef, undef, undef, undef, undef, undef, undef, undef, undef, undef, undef, undef, undef, undef, undef, undef, undef, undef, undef, undef, undef, undef, undef, undef, undef, undef, undef, undef, undef, undef, undef, undef, undef, undef, undef, undef, undef, undef].getD i_ undef), (FM.le.refl _), HS, HO7, h, (by kernel_rfl)⟩ ?_
  clear h
  rintro n225 _ W228 ⟨f226, A233, c234, s235, n231, x232, x237, j230, L227, HS229, HO236, h, rfl⟩ K223 hK224
  obtain _ | n225 := n225
  · exact nomatch h
  simp only [squeeze_writer_put.l0] at h
  refine wp_seq_k (fun K238 hK239 => ?_)
  refine wp_seq_k (fun K240 hK241 => ?_)
  refine wp_region_lit ?_
  refine seqS2 (a' := ⟨#[.pointer (some ⟨b1, 0, none⟩), iV v9, iV n231, uV, uV, uV, iV n10, iV (w64 (n10 - 1)), iV n231, .bool (decide (n231 ≥ 0)), (j230 2), (j230 3), (j230 4), (j230 5), (j230 6), (j230 7), (j230 8), (j230 9), (j230 10), (j230 11), (j230 12), (j230 13), (j230 14), (j230 15), (j230 16), (j230 17), (j230 18), (j230 19), (j230 20), (j230 21), (j230 22), (j230 23), (j230 24), (j230 25), (j230 26), (j230 27), (j230 28), (j230 29), (j230 30), (j230 31), (j230 32), (j230 33), (j230 34), (j230 35), (j230 36), (j230 37), (j230 38), (j230 39), (j230 40), (j230 41), (j230 42), (j230 43), (j230 44), (j230 45), (j230 46), (j230 47), (j230 48), (j230 49), (j230 50), (j230 51)], []⟩) (by kernel_rfl) ?_
  refine wpList_nil ?_
  refine hK241 _ _ ?_
  have hq_ := ite_some h; clear h; rcases hq_ with ⟨c243, h⟩ | ⟨c243, h⟩
  · have c243 : n231 ≥ 0 := c243
    refine wpRwI 9 (x := (decide (n231 ≥ 0))) (v := true) (by kernel_rfl) (decide_eq_true c243) ?_
    refine condT (by kernel_rfl) ?_
    refine wp_skip ?_
    refine hK239 _ _ ?_
    refine wp_seq_k (fun K244 hK245 => ?_)
    refine blockK (fun B246 hx247 hn248 hr249 ho250 hp251 => ?_)
    refine wp_seq_k (fun K253 hK254 => ?_)
    refine wp_seq_k (fun K255 hK256 => ?_)
    refine wp_region_lit ?_
    refine seqL3 (by kernel_rfl) ?_
    refine seqK rfl (does_run (run_load rfl Tryd.underlying3 rfl (by kernel_rfl : _ = Value.pointer (some ⟨b1, 1, none⟩)) (HS229.cell 1)) ?_)
    refine seqS2 (a' := ⟨#[.pointer (some ⟨b1, 0, none⟩), iV v9, iV n231, uV, uV, uV, iV n10, iV (w64 (n10 - 1)), iV n231, .bool true, (j230 2), (j230 3), .pointer (some ⟨b1, 0, none⟩), .pointer (some ⟨b1, 0, none⟩), .pointer (some ⟨b1, 1, none⟩), iV x237, iV (Int.tmod x237 8), .bool ((Int.tmod x237 8) == 0), (j230 10), (j230 11), (j230 12), (j230 13), (j230 14), (j230 15), (j230 16), (j230 17), (j230 18), (j230 19), (j230 20), (j230 21), (j230 22), (j230 23), (j230 24), (j230 25), (j230 26), (j230 27), (j230 28), (j230 29), (j230 30), (j230 31), (j230 32), (j230 33), (j230 34), (j230 35), (j230 36), (j230 37), (j230 38), (j230 39), (j230 40), (j230 41), (j230 42), (j230 43), (j230 44), (j230 45), (j230 46), (j230 47), (j230 48), (j230 49), (j230 50), (j230 51)], []⟩) (by kernel_rfl) ?_
    refine wpList_nil ?_
    refine hK256 _ _ ?_
    have hq_ := ite_some h; clear h; rcases hq_ with ⟨c258, h⟩ | ⟨c258, h⟩
    · have c258 : (Int.tmod x237 8) = 0 := c258
      refine wpRwI 17 (x := ((Int.tmod x237 8) == 0)) (v := true) (by kernel_rfl) (beq_iff_eq.mpr c258) ?_
      refine condT (by kernel_rfl) ?_
      refine wp_region_lit ?_
      refine seqL4 (by kernel_rfl) ?_
      refine seqK rfl (does_run (run_load rfl Tryd.underlying23 rfl (by kernel_rfl : _ = Value.pointer (some ⟨b1, 0, none⟩)) (HS229.cell 0)) ?_)
      refine seqK rfl (does_lit (e := (tInt .u8)) (E := 5) (vs := #[(0, Value.int .u8 0)]) (cs := #[.int .u8 0]) (xs := ([0] : List Int)) rfl Tryd.underlying23 (by kernel_rfl) (by kernel_rfl) ⟨[.int .u8 0], _, rfl, rfl, rfl⟩ rfl HS229 ?_ (by decide))
      intro b259 W260 s261 HS262 _ HO263
      have hq_ := guard_some h; clear h; obtain ⟨c265, h⟩ := hq_
      have c265 : (x232.length + 1) * 1 ≤ 140737488355328 := c265
      have HS266 := HS262.u2
      have HS267 := HS266.u1
      refine seqK rfl (does_append1 (e := (tInt .u8)) (E := 5) (xs := x232) (ys := ([0] : List Int)) rfl (by kernel_rfl : _ = Value.slice A233 x232.length c234) (by kernel_rfl : _ = Value.slice (some ⟨b259, 0, none⟩) ([0] : List Int).length 1) Tryd.underlying23 inf5 HO236 HO263 HS267 c265 (lim63 c265 (by decide)) ?_)
      intro A268 c269 s270 W271 HS272 HO273
      have HS274 := HS272.u1
      refine seqL2 (by kernel_rfl) ?_
      refine seqK rfl (does_store (n := 1) (vs := [.slice A268 (x232 ++ ([0] : List Int)).length c269]) (cs' := #[.slice A268 (x232 ++ ([0] : List Int)).length c269, .int .i64 x237]) rfl (by kernel_rfl) (by kernel_rfl : _ = Value.pointer (some ⟨b1, 0, none⟩)) (by kernel_rfl : _ = Value.slice A268 (x232 ++ ([0] : List Int)).length c269) rfl rfl (by intro u_ hu_; simp only [List.mem_cons, List.not_mem_nil, or_false] at hu_; subst hu_; rfl) HS274 (Nat.le_of_ble_eq_true rfl) (by kernel_rfl) ?_)
      intro W275 HS276
      refine wpList_nil ?_
      refine hK254 _ _ ?_
      refine wp_seq_k (fun K277 hK278 => ?_)
      have HS279 := HS276.u1
      have HS280 := HS279.u1
      refine heldG (S := Sg t f226 (H) [(26, [(b1, .cells #[.slice A268 (x232 ++ ([0] : List Int)).length c269, .int .i64 x237] 80 (0, 0))]), (26, s270)]) (n := 27) (by kernel_rfl) rfl HS280 ?_
      intro W281 HS282
      refine takeG [0, 1, 2] (n := 27) (fuel := 24) (l' := #[true, true, true, false, false, false, false, false, false, false, false, false, false, false, false, false, false, false, false, false, false, false, false, false, false, false, false]) (a' := ⟨#[.pointer (some ⟨b1, 0, none⟩), iV v9, iV n231, uV, uV, uV, iV n10, iV (w64 (n10 - 1)), iV n231, .bool true, (j230 2), (j230 3), .pointer (some ⟨b1, 0, none⟩), .pointer (some ⟨b1, 0, none⟩), .pointer (some ⟨b1, 1, none⟩), iV x237, iV (Int.tmod x237 8), .bool true, .pointer (some ⟨b1, 0, none⟩), .pointer (some ⟨b1, 0, none⟩), .pointer (some ⟨b1, 0, none⟩), .pointer (some ⟨b1, 0, none⟩), .slice A233 x232.length c234, .slice (some ⟨b259, 0, none⟩) ([0] : List Int).length 1, .slice A268 (x232 ++ ([0] : List Int)).length c269, .pointer (some ⟨b1, 0, none⟩), .pointer (some ⟨b1, 0, none⟩), .pointer (some ⟨b1, 0, none⟩), .pointer (some ⟨b1, 0, none⟩), .pointer (some ⟨b1, 0, none⟩), (j230 22), (j230 23), (j230 24), (j230 25), (j230 26), (j230 27), (j230 28), (j230 29), (j230 30), (j230 31), (j230 32), (j230 33), (j230 34), (j230 35), (j230 36), (j230 37), (j230 38), (j230 39), (j230 40), (j230 41), (j230 42), (j230 43), (j230 44), (j230 45), (j230 46), (j230 47), (j230 48), (j230 49), (j230 50), (j230 51)], []⟩) rfl (by kernel_rfl) (by kernel_rfl) (by kernel_rfl) (fun ch_ a_ w_ q_ => (fun ch_ a_ w_ q_ => hnp ch_ a_ w_ (hp18 ch_ a_ w_ q_)) ch_ a_ w_ (hp251 ch_ a_ w_ q_)) (Sg.g2 (Sx.of [[(b1, .cells #[.slice A268 (x232 ++ ([0] : List Int)).length c269, .int .i64 x237] 80 (0, 0))], s270] (FM.le.refl _) HS282) (fun _ => St.only [] HS282 (FM.le.refl _)) (fun _ => St.only [[(b1, .cells #[.slice A268 (x232 ++ ([0] : List Int)).length c269, .int .i64 x237] 80 (0, 0))]] HS282 (FM.le.refl _))) ?_
      refine takeGQ 3 [26] rfl (by kernel_rfl) (by kernel_rfl) (by kernel_rfl) (by kernel_rfl) (by kernel_rfl) (by kernel_rfl) (fun ch_ a_ w_ q_ => (fun ch_ a_ w_ q_ => hnp ch_ a_ w_ (hp18 ch_ a_ w_ q_)) ch_ a_ w_ (hp251 ch_ a_ w_ q_)) (Sg.g2 (Sx.of [[(b1, .cells #[.slice A268 (x232 ++ ([0] : List Int)).length c269, .int .i64 x237] 80 (0, 0))], s270] (FM.le.refl _) HS282) (fun _ => St.only [] HS282 (FM.le.refl _)) (fun _ => St.only [[(b1, .cells #[.slice A268 (x232 ++ ([0] : List Int)).length c269, .int .i64 x237] 80 (0, 0))]] HS282 (FM.le.refl _))) (fun w_ hw_ => by obtain ⟨g_, hl_, hS_⟩ := hw_.seg (j := 26) (s := [(b1, .cells #[.slice A268 (x232 ++ ([0] : List Int)).length c269, .int .i64 x237] 80 (0, 0))]) (by simp) (by simp); exact run_load rfl Tryd.underlying23 rfl (by kernel_rfl : _ = Value.pointer (some ⟨b1, 0, none⟩)) (hS_.cell 0)) ?_
      refine takeG [4, 5, 6] (n := 23) (fuel := 20) (l' := #[true, true, true, true, true, true, true, false, false, false, false, false, false, false, false, false, false, false, false, false, false, false, false, false, false, false, false]) (a' := ⟨#[.pointer (some ⟨b1, 0, none⟩), iV v9, iV n231, uV, uV, uV, iV n10, iV (w64 (n10 - 1)), iV n231, .bool true, (j230 2), (j230 3), .pointer (some ⟨b1, 0, none⟩), .pointer (some ⟨b1, 0, none⟩), .pointer (some ⟨b1, 1, none⟩), iV x237, iV (Int.tmod x237 8), .bool true, .pointer (some ⟨b1, 0, none⟩), .pointer (some ⟨b1, 0, none⟩), .pointer (some ⟨b1, 0, none⟩), .pointer (some ⟨b1, 0, none⟩), .slice A233 x232.length c234, .slice (some ⟨b259, 0, none⟩) ([0] : List Int).length 1, .slice A268 (x232 ++ ([0] : List Int)).length c269, .pointer (some ⟨b1, 0, none⟩), .pointer (some ⟨b1, 0, none⟩), .pointer (some ⟨b1, 0, none⟩), .pointer (some ⟨b1, 0, none⟩), .pointer (some ⟨b1, 0, none⟩), .slice A268 (x232 ++ ([0] : List Int)).length c269, .pointer (some ⟨b1, 0, none⟩), .pointer (some ⟨b1, 0, none⟩), .pointer (some ⟨b1, 0, none⟩), (j230 26), (j230 27), (j230 28), (j230 29), (j230 30), (j230 31), (j230 32), (j230 33), (j230 34), (j230 35), (j230 36), (j230 37), (j230 38), (j230 39), (j230 40), (j230 41), (j230 42), (j230 43), (j230 44), (j230 45), (j230 46), (j230 47), (j230 48), (j230 49), (j230 50), (j230 51)], []⟩) rfl (by kernel_rfl) (by kernel_rfl) (by kernel_rfl) (fun ch_ a_ w_ q_ => (fun ch_ a_ w_ q_ => hnp ch_ a_ w_ (hp18 ch_ a_ w_ q_)) ch_ a_ w_ (hp251 ch_ a_ w_ q_)) (Sg.g2 (Sx.of [[(b1, .cells #[.slice A268 (x232 ++ ([0] : List Int)).length c269, .int .i64 x237] 80 (0, 0))], s270] (FM.le.refl _) HS282) (fun _ => St.only [] HS282 (FM.le.refl _)) (fun _ => St.only [[(b1, .cells #[.slice A268 (x232 ++ ([0] : List Int)).length c269, .int .i64 x237] 80 (0, 0))]] HS282 (FM.le.refl _))) ?_
      refine takeGQ 7 [26] rfl (by kernel_rfl) (by kernel_rfl) (by kernel_rfl) (by kernel_rfl) (by kernel_rfl) (by kernel_rfl) (fun ch_ a_ w_ q_ => (fun ch_ a_ w_ q_ => hnp ch_ a_ w_ (hp18 ch_ a_ w_ q_)) ch_ a_ w_ (hp251 ch_ a_ w_ q_)) (Sg.g2 (Sx.of [[(b1, .cells #[.slice A268 (x232 ++ ([0] : List Int)).length c269, .int .i64 x237] 80 (0, 0))], s270] (FM.le.refl _) HS282) (fun _ => St.only [] HS282 (FM.le.refl _)) (fun _ => St.only [[(b1, .cells #[.slice A268 (x232 ++ ([0] : List Int)).length c269, .int .i64 x237] 80 (0, 0))]] HS282 (FM.le.refl _))) (fun w_ hw_ => by obtain ⟨g_, hl_, hS_⟩ := hw_.seg (j := 26) (s := [(b1, .cells #[.slice A268 (x232 ++ ([0] : List Int)).length c269, .int .i64 x237] 80 (0, 0))]) (by simp) (by simp); exact run_load rfl Tryd.underlying23 rfl (by kernel_rfl : _ = Value.pointer (some ⟨b1, 0, none⟩)) (hS_.cell 0)) ?_
      have hq_ := guard_some h; clear h; obtain ⟨c283, h⟩ := hq_
      have c283 : 0 ≤ (w64 (((x232 ++ ([0] : List Int)).length : Int) - 1)) := c283
      have hq_ := guard_some h; clear h; obtain ⟨c284, h⟩ := hq_
      have c284 : (w64 (((x232 ++ ([0] : List Int)).length : Int) - 1)) < ((x232 ++ ([0] : List Int)).length : Int) := c284
      obtain ⟨b288, of289, cs285, hA290, hr286, hc287⟩ := HO273.at (i := w64 (((x232 ++ ([0] : List Int)).length : Int) - 1)) c283 c284
      obtain rfl := hr286
      refine takeG [8, 9] (n := 19) (fuel := 17) (l' := #[true, true, true, true, true, true, true, true, true, true, false, false, false, false, false, false, false, false, false, false, false, false, false, false, false, false, false]) (a' := ⟨#[.pointer (some ⟨b1, 0, none⟩), iV v9, iV n231, uV, uV, uV, iV n10, iV (w64 (n10 - 1)), iV n231, .bool true, (j230 2), (j230 3), .pointer (some ⟨b1, 0, none⟩), .pointer (some ⟨b1, 0, none⟩), .pointer (some ⟨b1, 1, none⟩), iV x237, iV (Int.tmod x237 8), .bool true, .pointer (some ⟨b1, 0, none⟩), .pointer (some ⟨b1, 0, none⟩), .pointer (some ⟨b1, 0, none⟩), .pointer (some ⟨b1, 0, none⟩), .slice A233 x232.length c234, .slice (some ⟨b259, 0, none⟩) ([0] : List Int).length 1, .slice A268 (x232 ++ ([0] : List Int)).length c269, .pointer (some ⟨b1, 0, none⟩), .pointer (some ⟨b1, 0, none⟩), .pointer (some ⟨b1, 0, none⟩), .pointer (some ⟨b1, 0, none⟩), .pointer (some ⟨b1, 0, none⟩), .slice A268 (x232 ++ ([0] : List Int)).length c269, .pointer (some ⟨b1, 0, none⟩), .pointer (some ⟨b1, 0, none⟩), .pointer (some ⟨b1, 0, none⟩), .slice A268 (x232 ++ ([0] : List Int)).length c269, iV ((x232 ++ ([0] : List Int)).length : Int), iV (w64 (((x232 ++ ([0] : List Int)).length : Int) - 1)), (j230 29), (j230 30), (j230 31), (j230 32), (j230 33), (j230 34), (j230 35), (j230 36), (j230 37), (j230 38), (j230 39), (j230 40), (j230 41), (j230 42), (j230 43), (j230 44), (j230 45), (j230 46), (j230 47), (j230 48), (j230 49), (j230 50), (j230 51)], []⟩) rfl (by kernel_rfl) (by kernel_rfl) (by kernel_rfl) (fun ch_ a_ w_ q_ => (fun ch_ a_ w_ q_ => hnp ch_ a_ w_ (hp18 ch_ a_ w_ q_)) ch_ a_ w_ (hp251 ch_ a_ w_ q_)) (Sg.g2 (Sx.of [[(b1, .cells #[.slice A268 (x232 ++ ([0] : List Int)).length c269, .int .i64 x237] 80 (0, 0))], s270] (FM.le.refl _) HS282) (fun _ => St.only [] HS282 (FM.le.refl _)) (fun _ => St.only [[(b1, .cells #[.slice A268 (x232 ++ ([0] : List Int)).length c269, .int .i64 x237] 80 (0, 0))]] HS282 (FM.le.refl _))) ?_
      refine takeGQ 10 [] rfl (by kernel_rfl) (by kernel_rfl) (by kernel_rfl) (by kernel_rfl) (by kernel_rfl) (by kernel_rfl) (fun ch_ a_ w_ q_ => (fun ch_ a_ w_ q_ => hnp ch_ a_ w_ (hp18 ch_ a_ w_ q_)) ch_ a_ w_ (hp251 ch_ a_ w_ q_)) (Sg.g2 (Sx.of [[(b1, .cells #[.slice A268 (x232 ++ ([0] : List Int)).length c269, .int .i64 x237] 80 (0, 0))], s270] (FM.le.refl _) HS282) (fun _ => St.only [] HS282 (FM.le.refl _)) (fun _ => St.only [[(b1, .cells #[.slice A268 (x232 ++ ([0] : List Int)).length c269, .int .i64 x237] 80 (0, 0))]] HS282 (FM.le.refl _))) (fun w_ hw_ => by obtain ⟨g_, hl_, hS_⟩ := hw_.st; exact run_indexE hA290 (sz := 1) rfl Tryd.underlying23 (by kernel_rfl) (by kernel_rfl : _ = Value.slice A268 (x232 ++ ([0] : List Int)).length c269) (by kernel_rfl : _ = Value.int .i64 (w64 (((x232 ++ ([0] : List Int)).length : Int) - 1))) c283 c284 w_) ?_
      refine takeGQ 11 [26] rfl (by kernel_rfl) (by kernel_rfl) (by kernel_rfl) (by kernel_rfl) (by kernel_rfl) (by kernel_rfl) (fun ch_ a_ w_ q_ => (fun ch_ a_ w_ q_ => hnp ch_ a_ w_ (hp18 ch_ a_ w_ q_)) ch_ a_ w_ (hp251 ch_ a_ w_ q_)) (Sg.g2 (Sx.of [[(b1, .cells #[.slice A268 (x232 ++ ([0] : List Int)).length c269, .int .i64 x237] 80 (0, 0))], s270] (FM.le.refl _) HS282) (fun _ => St.only [] HS282 (FM.le.refl _)) (fun _ => St.only [[(b1, .cells #[.slice A268 (x232 ++ ([0] : List Int)).length c269, .int .i64 x237] 80 (0, 0))]] HS282 (FM.le.refl _))) (fun w_ hw_ => by obtain ⟨g_, hl_, hS_⟩ := hw_.seg (j := 26) (s := s270) (by simp) (by simp); exact run_load rfl Tryd.underlying5 rfl (by kernel_rfl : _ = Value.pointer (some ⟨b288, of289 + (w64 (((x232 ++ ([0] : List Int)).length : Int) - 1) : Int).toNat * 1, none⟩)) ((hc287 hS_) 0 (by decide))) ?_
      have hq_ := guard_some h; clear h; obtain ⟨c291, h⟩ := hq_
      have c291 : ¬ (n231 < 0) := c291
      refine takeG [12, 13] (n := 15) (fuel := 13) (l' := #[true, true, true, true, true, true, true, true, true, true, true, true, true, true, false, false, false, false, false, false, false, false, false, false, false, false, false]) (a' := ⟨#[.pointer (some ⟨b1, 0, none⟩), iV v9, iV n231, uV, uV, uV, iV n10, iV (w64 (n10 - 1)), iV n231, .bool true, (j230 2), (j230 3), .pointer (some ⟨b1, 0, none⟩), .pointer (some ⟨b1, 0, none⟩), .pointer (some ⟨b1, 1, none⟩), iV x237, iV (Int.tmod x237 8), .bool true, .pointer (some ⟨b1, 0, none⟩), .pointer (some ⟨b1, 0, none⟩), .pointer (some ⟨b1, 0, none⟩), .pointer (some ⟨b1, 0, none⟩), .slice A233 x232.length c234, .slice (some ⟨b259, 0, none⟩) ([0] : List Int).length 1, .slice A268 (x232 ++ ([0] : List Int)).length c269, .pointer (some ⟨b1, 0, none⟩), .pointer (some ⟨b1, 0, none⟩), .pointer (some ⟨b1, 0, none⟩), .pointer (some ⟨b1, 0, none⟩), .pointer (some ⟨b1, 0, none⟩), .slice A268 (x232 ++ ([0] : List Int)).length c269, .pointer (some ⟨b1, 0, none⟩), .pointer (some ⟨b1, 0, none⟩), .pointer (some ⟨b1, 0, none⟩), .slice A268 (x232 ++ ([0] : List Int)).length c269, iV ((x232 ++ ([0] : List Int)).length : Int), iV (w64 (((x232 ++ ([0] : List Int)).length : Int) - 1)), .pointer (some ⟨b288, of289 + (w64 (((x232 ++ ([0] : List Int)).length : Int) - 1) : Int).toNat * 1, none⟩), .int .u8 (rd (x232 ++ ([0] : List Int)) (w64 (((x232 ++ ([0] : List Int)).length : Int) - 1))), iV v9, iV n231, (j230 33), (j230 34), (j230 35), (j230 36), (j230 37), (j230 38), (j230 39), (j230 40), (j230 41), (j230 42), (j230 43), (j230 44), (j230 45), (j230 46), (j230 47), (j230 48), (j230 49), (j230 50), (j230 51)], []⟩) rfl (by kernel_rfl) (by kernel_rfl) (by kernel_rfl) (fun ch_ a_ w_ q_ => (fun ch_ a_ w_ q_ => hnp ch_ a_ w_ (hp18 ch_ a_ w_ q_)) ch_ a_ w_ (hp251 ch_ a_ w_ q_)) (Sg.g2 (Sx.of [[(b1, .cells #[.slice A268 (x232 ++ ([0] : List Int)).length c269, .int .i64 x237] 80 (0, 0))], s270] (FM.le.refl _) HS282) (fun _ => St.only [] HS282 (FM.le.refl _)) (fun _ => St.only [[(b1, .cells #[.slice A268 (x232 ++ ([0] : List Int)).length c269, .int .i64 x237] 80 (0, 0))]] HS282 (FM.le.refl _))) ?_
      refine takeGQ 14 [] rfl (by kernel_rfl) (by kernel_rfl) (by kernel_rfl) (by kernel_rfl) (by kernel_rfl) (by kernel_rfl) (fun ch_ a_ w_ q_ => (fun ch_ a_ w_ q_ => hnp ch_ a_ w_ (hp18 ch_ a_ w_ q_)) ch_ a_ w_ (hp251 ch_ a_ w_ q_)) (Sg.g2 (Sx.of [[(b1, .cells #[.slice A268 (x232 ++ ([0] : List Int)).length c269, .int .i64 x237] 80 (0, 0))], s270] (FM.le.refl _) HS282) (fun _ => St.only [] HS282 (FM.le.refl _)) (fun _ => St.only [[(b1, .cells #[.slice A268 (x232 ++ ([0] : List Int)).length c269, .int .i64 x237] 80 (0, 0))]] HS282 (FM.le.refl _))) (fun w_ hw_ => by obtain ⟨g_, hl_, hS_⟩ := hw_.st; exact run_shr rfl (by kernel_rfl : _ = Value.int .i64 v9) (by kernel_rfl : _ = Value.int .i64 n231) c291 w_) ?_
      refine takeG [15, 16, 17, 18, 19] (n := 12) (fuel := 7) (l' := #[true, true, true, true, true, true, true, true, true, true, true, true, true, true, true, true, true, true, true, true, false, false, false, false, false, false, false]) (a' := ⟨#[.pointer (some ⟨b1, 0, none⟩), iV v9, iV n231, uV, uV, uV, iV n10, iV (w64 (n10 - 1)), iV n231, .bool true, (j230 2), (j230 3), .pointer (some ⟨b1, 0, none⟩), .pointer (some ⟨b1, 0, none⟩), .pointer (some ⟨b1, 1, none⟩), iV x237, iV (Int.tmod x237 8), .bool true, .pointer (some ⟨b1, 0, none⟩), .pointer (some ⟨b1, 0, none⟩), .pointer (some ⟨b1, 0, none⟩), .pointer (some ⟨b1, 0, none⟩), .slice A233 x232.length c234, .slice (some ⟨b259, 0, none⟩) ([0] : List Int).length 1, .slice A268 (x232 ++ ([0] : List Int)).length c269, .pointer (some ⟨b1, 0, none⟩), .pointer (some ⟨b1, 0, none⟩), .pointer (some ⟨b1, 0, none⟩), .pointer (some ⟨b1, 0, none⟩), .pointer (some ⟨b1, 0, none⟩), .slice A268 (x232 ++ ([0] : List Int)).length c269, .pointer (some ⟨b1, 0, none⟩), .pointer (some ⟨b1, 0, none⟩), .pointer (some ⟨b1, 0, none⟩), .slice A268 (x232 ++ ([0] : List Int)).length c269, iV ((x232 ++ ([0] : List Int)).length : Int), iV (w64 (((x232 ++ ([0] : List Int)).length : Int) - 1)), .pointer (some ⟨b288, of289 + (w64 (((x232 ++ ([0] : List Int)).length : Int) - 1) : Int).toNat * 1, none⟩), .int .u8 (rd (x232 ++ ([0] : List Int)) (w64 (((x232 ++ ([0] : List Int)).length : Int) - 1))), iV v9, iV n231, iV (shr v9 (min (n231).toNat 64)), iV (Go.bits .and .i64 (shr v9 (min (n231).toNat 64)) 1), .int .u8 (u8 (Go.bits .and .i64 (shr v9 (min (n231).toNat 64)) 1)), .pointer (some ⟨b1, 0, none⟩), .pointer (some ⟨b1, 0, none⟩), .pointer (some ⟨b1, 1, none⟩), (j230 39), (j230 40), (j230 41), (j230 42), (j230 43), (j230 44), (j230 45), (j230 46), (j230 47), (j230 48), (j230 49), (j230 50), (j230 51)], []⟩) rfl (by kernel_rfl) (by kernel_rfl) (by kernel_rfl) (fun ch_ a_ w_ q_ => (fun ch_ a_ w_ q_ => hnp ch_ a_ w_ (hp18 ch_ a_ w_ q_)) ch_ a_ w_ (hp251 ch_ a_ w_ q_)) (Sg.g2 (Sx.of [[(b1, .cells #[.slice A268 (x232 ++ ([0] : List Int)).length c269, .int .i64 x237] 80 (0, 0))], s270] (FM.le.refl _) HS282) (fun _ => St.only [] HS282 (FM.le.refl _)) (fun _ => St.only [[(b1, .cells #[.slice A268 (x232 ++ ([0] : List Int)).length c269, .int .i64 x237] 80 (0, 0))]] HS282 (FM.le.refl _))) ?_
      refine takeGQ 20 [26] rfl (by kernel_rfl) (by kernel_rfl) (by kernel_rfl) (by kernel_rfl) (by kernel_rfl) (by kernel_rfl) (fun ch_ a_ w_ q_ => (fun ch_ a_ w_ q_ => hnp ch_ a_ w_ (hp18 ch_ a_ w_ q_)) ch_ a_ w_ (hp251 ch_ a_ w_ q_)) (Sg.g2 (Sx.of [[(b1, .cells #[.slice A268 (x232 ++ ([0] : List Int)).length c269, .int .i64 x237] 80 (0, 0))], s270] (FM.le.refl _) HS282) (fun _ => St.only [] HS282 (FM.le.refl _)) (fun _ => St.only [[(b1, .cells #[.slice A268 (x232 ++ ([0] : List Int)).length c269, .int .i64 x237] 80 (0, 0))]] HS282 (FM.le.refl _))) (fun w_ hw_ => by obtain ⟨g_, hl_, hS_⟩ := hw_.seg (j := 26) (s := [(b1, .cells #[.slice A268 (x232 ++ ([0] : List Int)).length c269, .int .i64 x237] 80 (0, 0))]) (by simp) (by simp); exact run_load rfl Tryd.underlying3 rfl (by kernel_rfl : _ = Value.pointer (some ⟨b1, 1, none⟩)) (hS_.cell 1)) ?_
      have hq_ := guard_some h; clear h; obtain ⟨c292, h⟩ := hq_
      have c292 : ¬ ((w64 (7 - (Int.tmod x237 8))) < 0) := c292
      refine takeG [21, 22] (n := 6) (fuel := 4) (l' := #[true, true, true, true, true, true, true, true, true, true, true, true, true, true, true, true, true, true, true, true, true, true, true, false, false, false, false]) (a' := ⟨#[.pointer (some ⟨b1, 0, none⟩), iV v9, iV n231, uV, uV, uV, iV n10, iV (w64 (n10 - 1)), iV n231, .bool true, (j230 2), (j230 3), .pointer (some ⟨b1, 0, none⟩), .pointer (some ⟨b1, 0, none⟩), .pointer (some ⟨b1, 1, none⟩), iV x237, iV (Int.tmod x237 8), .bool true, .pointer (some ⟨b1, 0, none⟩), .pointer (some ⟨b1, 0, none⟩), .pointer (some ⟨b1, 0, none⟩), .pointer (some ⟨b1, 0, none⟩), .slice A233 x232.length c234, .slice (some ⟨b259, 0, none⟩) ([0] : List Int).length 1, .slice A268 (x232 ++ ([0] : List Int)).length c269, .pointer (some ⟨b1, 0, none⟩), .pointer (some ⟨b1, 0, none⟩), .pointer (some ⟨b1, 0, none⟩), .pointer (some ⟨b1, 0, none⟩), .pointer (some ⟨b1, 0, none⟩), .slice A268 (x232 ++ ([0] : List Int)).length c269, .pointer (some ⟨b1, 0, none⟩), .pointer (some ⟨b1, 0, none⟩), .pointer (some ⟨b1, 0, none⟩), .slice A268 (x232 ++ ([0] : List Int)).length c269, iV ((x232 ++ ([0] : List Int)).length : Int), iV (w64 (((x232 ++ ([0] : List Int)).length : Int) - 1)), .pointer (some ⟨b288, of289 + (w64 (((x232 ++ ([0] : List Int)).length : Int) - 1) : Int).toNat * 1, none⟩), .int .u8 (rd (x232 ++ ([0] : List Int)) (w64 (((x232 ++ ([0] : List Int)).length : Int) - 1))), iV v9, iV n231, iV (shr v9 (min (n231).toNat 64)), iV (Go.bits .and .i64 (shr v9 (min (n231).toNat 64)) 1), .int .u8 (u8 (Go.bits .and .i64 (shr v9 (min (n231).toNat 64)) 1)), .pointer (some ⟨b1, 0, none⟩), .pointer (some ⟨b1, 0, none⟩), .pointer (some ⟨b1, 1, none⟩), iV x237, iV (Int.tmod x237 8), iV (w64 (7 - (Int.tmod x237 8))), (j230 42), (j230 43), (j230 44), (j230 45), (j230 46), (j230 47), (j230 48), (j230 49), (j230 50), (j230 51)], []⟩) rfl (by kernel_rfl) (by kernel_rfl) (by kernel_rfl) (fun ch_ a_ w_ q_ => (fun ch_ a_ w_ q_ => hnp ch_ a_ w_ (hp18 ch_ a_ w_ q_)) ch_ a_ w_ (hp251 ch_ a_ w_ q_)) (Sg.g2 (Sx.of [[(b1, .cells #[.slice A268 (x232 ++ ([0] : List Int)).length c269, .int .i64 x237] 80 (0, 0))], s270] (FM.le.refl _) HS282) (fun _ => St.only [] HS282 (FM.le.refl _)) (fun _ => St.only [[(b1, .cells #[.slice A268 (x232 ++ ([0] : List Int)).length c269, .int .i64 x237] 80 (0, 0))]] HS282 (FM.le.refl _))) ?_
      refine takeGQ 23 [] rfl (by kernel_rfl) (by kernel_rfl) (by kernel_rfl) (by kernel_rfl) (by kernel_rfl) (by kernel_rfl) (fun ch_ a_ w_ q_ => (fun ch_ a_ w_ q_ => hnp ch_ a_ w_ (hp18 ch_ a_ w_ q_)) ch_ a_ w_ (hp251 ch_ a_ w_ q_)) (Sg.g2 (Sx.of [[(b1, .cells #[.slice A268 (x232 ++ ([0] : List Int)).length c269, .int .i64 x237] 80 (0, 0))], s270] (FM.le.refl _) HS282) (fun _ => St.only [] HS282 (FM.le.refl _)) (fun _ => St.only [[(b1, .cells #[.slice A268 (x232 ++ ([0] : List Int)).length c269, .int .i64 x237] 80 (0, 0))]] HS282 (FM.le.refl _))) (fun w_ hw_ => by obtain ⟨g_, hl_, hS_⟩ := hw_.st; exact run_shl rfl (by kernel_rfl : _ = Value.int .u8 (u8 (Go.bits .and .i64 (shr v9 (min (n231).toNat 64)) 1))) (by kernel_rfl : _ = Value.int .i64 (w64 (7 - (Int.tmod x237 8)))) c292 w_) ?_
      refine takeG [24] (n := 3) (fuel := 2) (l' := #[true, true, true, true, true, true, true, true, true, true, true, true, true, true, true, true, true, true, true, true, true, true, true, true, true, false, false]) (a' := ⟨#[.pointer (some ⟨b1, 0, none⟩), iV v9, iV n231, uV, uV, uV, iV n10, iV (w64 (n10 - 1)), iV n231, .bool true, (j230 2), (j230 3), .pointer (some ⟨b1, 0, none⟩), .pointer (some ⟨b1, 0, none⟩), .pointer (some ⟨b1, 1, none⟩), iV x237, iV (Int.tmod x237 8), .bool true, .pointer (some ⟨b1, 0, none⟩), .pointer (some ⟨b1, 0, none⟩), .pointer (some ⟨b1, 0, none⟩), .pointer (some ⟨b1, 0, none⟩), .slice A233 x232.length c234, .slice (some ⟨b259, 0, none⟩) ([0] : List Int).length 1, .slice A268 (x232 ++ ([0] : List Int)).length c269, .pointer (some ⟨b1, 0, none⟩), .pointer (some ⟨b1, 0, none⟩), .pointer (some ⟨b1, 0, none⟩), .pointer (some ⟨b1, 0, none⟩), .pointer (some ⟨b1, 0, none⟩), .slice A268 (x232 ++ ([0] : List Int)).length c269, .pointer (some ⟨b1, 0, none⟩), .pointer (some ⟨b1, 0, none⟩), .pointer (some ⟨b1, 0, none⟩), .slice A268 (x232 ++ ([0] : List Int)).length c269, iV ((x232 ++ ([0] : List Int)).length : Int), iV (w64 (((x232 ++ ([0] : List Int)).length : Int) - 1)), .pointer (some ⟨b288, of289 + (w64 (((x232 ++ ([0] : List Int)).length : Int) - 1) : Int).toNat * 1, none⟩), .int .u8 (rd (x232 ++ ([0] : List Int)) (w64 (((x232 ++ ([0] : List Int)).length : Int) - 1))), iV v9, iV n231, iV (shr v9 (min (n231).toNat 64)), iV (Go.bits .and .i64 (shr v9 (min (n231).toNat 64)) 1), .int .u8 (u8 (Go.bits .and .i64 (shr v9 (min (n231).toNat 64)) 1)), .pointer (some ⟨b1, 0, none⟩), .pointer (some ⟨b1, 0, none⟩), .pointer (some ⟨b1, 1, none⟩), iV x237, iV (Int.tmod x237 8), iV (w64 (7 - (Int.tmod x237 8))), .int .u8 (u8 ((u8 (Go.bits .and .i64 (shr v9 (min (n231).toNat 64)) 1)) * 2 ^ (min (w64 (7 - (Int.tmod x237 8))).toNat 8))), .int .u8 (Go.bits .or .u8 (rd (x232 ++ ([0] : List Int)) (w64 (((x232 ++ ([0] : List Int)).length : Int) - 1))) (u8 ((u8 (Go.bits .and .i64 (shr v9 (min (n231).toNat 64)) 1)) * 2 ^ (min (w64 (7 - (Int.tmod x237 8))).toNat 8)))), (j230 44), (j230 45), (j230 46), (j230 47), (j230 48), (j230 49), (j230 50), (j230 51)], []⟩) rfl (by kernel_rfl) (by kernel_rfl) (by kernel_rfl) (fun ch_ a_ w_ q_ => (fun ch_ a_ w_ q_ => hnp ch_ a_ w_ (hp18 ch_ a_ w_ q_)) ch_ a_ w_ (hp251 ch_ a_ w_ q_)) (Sg.g2 (Sx.of [[(b1, .cells #[.slice A268 (x232 ++ ([0] : List Int)).length c269, .int .i64 x237] 80 (0, 0))], s270] (FM.le.refl _) HS282) (fun _ => St.only [] HS282 (FM.le.refl _)) (fun _ => St.only [[(b1, .cells #[.slice A268 (x232 ++ ([0] : List Int)).length c269, .int .i64 x237] 80 (0, 0))]] HS282 (FM.le.refl _))) ?_
      refine takeGQ 25 [] rfl (by kernel_rfl) (by kernel_rfl) (by kernel_rfl) (by kernel_rfl) (by kernel_rfl) (by kernel_rfl) (fun ch_ a_ w_ q_ => (fun ch_ a_ w_ q_ => hnp ch_ a_ w_ (hp18 ch_ a_ w_ q_)) ch_ a_ w_ (hp251 ch_ a_ w_ q_)) (Sg.g2 (Sx.of [[(b1, .cells #[.slice A268 (x232 ++ ([0] : List Int)).length c269, .int .i64 x237] 80 (0, 0))], s270] (FM.le.refl _) HS282) (fun _ => St.only [] HS282 (FM.le.refl _)) (fun _ => St.only [[(b1, .cells #[.slice A268 (x232 ++ ([0] : List Int)).length c269, .int .i64 x237] 80 (0, 0))]] HS282 (FM.le.refl _))) (fun w_ hw_ => by obtain ⟨g_, hl_, hS_⟩ := hw_.st; exact run_indexE hA290 (sz := 1) rfl Tryd.underlying23 (by kernel_rfl) (by kernel_rfl : _ = Value.slice A268 (x232 ++ ([0] : List Int)).length c269) (by kernel_rfl : _ = Value.int .i64 (w64 (((x232 ++ ([0] : List Int)).length : Int) - 1))) c283 c284 w_) ?_
      have HS293 := HS282.u1
      refine takeGE 26 (by kernel_rfl) rfl (by kernel_rfl) (does_put (e := (tInt .u8)) (E := 5) (vs := [.int .u8 (Go.bits .or .u8 (rd (x232 ++ ([0] : List Int)) (w64 (((x232 ++ ([0] : List Int)).length : Int) - 1))) (u8 ((u8 (Go.bits .and .i64 (shr v9 (min (n231).toNat 64)) 1)) * 2 ^ (min (w64 (7 - (Int.tmod x237 8))).toNat 8))))]) (u := Go.bits .or .u8 (rd (x232 ++ ([0] : List Int)) (w64 (((x232 ++ ([0] : List Int)).length : Int) - 1))) (u8 ((u8 (Go.bits .and .i64 (shr v9 (min (n231).toNat 64)) 1)) * 2 ^ (min (w64 (7 - (Int.tmod x237 8))).toNat 8)))) (i := w64 (((x232 ++ ([0] : List Int)).length : Int) - 1)) rfl (by kernel_rfl) HO273 HS293 hA290 (by kernel_rfl : _ = Value.pointer (some ⟨b288, of289 + (w64 (((x232 ++ ([0] : List Int)).length : Int) - 1) : Int).toNat * 1, none⟩)) (by kernel_rfl : _ = Value.int .u8 (Go.bits .or .u8 (rd (x232 ++ ([0] : List Int)) (w64 (((x232 ++ ([0] : List Int)).length : Int) - 1))) (u8 ((u8 (Go.bits .and .i64 (shr v9 (min (n231).toNat 64)) 1)) * 2 ^ (min (w64 (7 - (Int.tmod x237 8))).toNat 8))))) rfl rfl c283 c284 ?_)
      intro W294 s295 HS296 HO297
      have HS298 : St t W294 f226 (s295 :: [(b1, .cells #[.slice A268 ((x232 ++ ([0] : List Int)).set (w64 (((x232 ++ ([0] : List Int)).length : Int) - 1)).toNat (Go.bits .or .u8 (rd (x232 ++ ([0] : List Int)) (w64 (((x232 ++ ([0] : List Int)).length : Int) - 1))) (u8 ((u8 (Go.bits .and .i64 (shr v9 (min (n231).toNat 64)) 1)) * 2 ^ (min (w64 (7 - (Int.tmod x237 8))).toNat 8))))).length c269, .int .i64 x237] 80 (0, 0))] :: H) := by rw [show ((x232 ++ ([0] : List Int)).set (w64 (((x232 ++ ([0] : List Int)).length : Int) - 1)).toNat (Go.bits .or .u8 (rd (x232 ++ ([0] : List Int)) (w64 (((x232 ++ ([0] : List Int)).length : Int) - 1))) (u8 ((u8 (Go.bits .and .i64 (shr v9 (min (n231).toNat 64)) 1)) * 2 ^ (min (w64 (7 - (Int.tmod x237 8))).toNat 8))))).length = (x232 ++ ([0] : List Int)).length from List.length_set]; exact HS296
      refine ⟨(Sg.g2 (Sx.of [s295, [(b1, .cells #[.slice A268 ((x232 ++ ([0] : List Int)).set (w64 (((x232 ++ ([0] : List Int)).length : Int) - 1)).toNat (Go.bits .or .u8 (rd (x232 ++ ([0] : List Int)) (w64 (((x232 ++ ([0] : List Int)).length : Int) - 1))) (u8 ((u8 (Go.bits .and .i64 (shr v9 (min (n231).toNat 64)) 1)) * 2 ^ (min (w64 (7 - (Int.tmod x237 8))).toNat 8))))).length c269, .int .i64 x237] 80 (0, 0))]] (FM.le.refl _) HS298) (fun hl_ => Bool.noConfusion (show true = false from hl_)) (fun hl_ => Bool.noConfusion (show true = false from hl_))), ?_⟩
      refine gateRwS 24 (A := A268) (m := (x232 ++ ([0] : List Int)).length) (n := ((x232 ++ ([0] : List Int)).set (w64 (((x232 ++ ([0] : List Int)).length : Int) - 1)).toNat (Go.bits .or .u8 (rd (x232 ++ ([0] : List Int)) (w64 (((x232 ++ ([0] : List Int)).length : Int) - 1))) (u8 ((u8 (Go.bits .and .i64 (shr v9 (min (n231).toNat 64)) 1)) * 2 ^ (min (w64 (7 - (Int.tmod x237 8))).toNat 8))))).length) (c := c269) (by kernel_rfl) (List.length_set).symm ?_
      refine gateRwS 30 (A := A268) (m := (x232 ++ ([0] : List Int)).length) (n := ((x232 ++ ([0] : List Int)).set (w64 (((x232 ++ ([0] : List Int)).length : Int) - 1)).toNat (Go.bits .or .u8 (rd (x232 ++ ([0] : List Int)) (w64 (((x232 ++ ([0] : List Int)).length : Int) - 1))) (u8 ((u8 (Go.bits .and .i64 (shr v9 (min (n231).toNat 64)) 1)) * 2 ^ (min (w64 (7 - (Int.tmod x237 8))).toNat 8))))).length) (c := c269) (by kernel_rfl) (List.length_set).symm ?_
      refine gateRwS 34 (A := A268) (m := (x232 ++ ([0] : List Int)).length) (n := ((x232 ++ ([0] : List Int)).set (w64 (((x232 ++ ([0] : List Int)).length : Int) - 1)).toNat (Go.bits .or .u8 (rd (x232 ++ ([0] : List Int)) (w64 (((x232 ++ ([0] : List Int)).length : Int) - 1))) (u8 ((u8 (Go.bits .and .i64 (shr v9 (min (n231).toNat 64)) 1)) * 2 ^ (min (w64 (7 - (Int.tmod x237 8))).toNat 8))))).length) (c := c269) (by kernel_rfl) (List.length_set).symm ?_
      refine doneG (by kernel_rfl) ?_ _
      refine hK278 _ _ ?_
      refine wp_region_lit ?_
      refine seqL3 (by kernel_rfl) ?_
      refine seqK rfl (does_run (run_load rfl Tryd.underlying3 rfl (by kernel_rfl : _ = Value.pointer (some ⟨b1, 1, none⟩)) (HS298.u1.cell 1)) ?_)
      have HS299 := HS298.u1
      refine seqL3 (by kernel_rfl) ?_
      refine seqK rfl (does_store (n := 1) (vs := [.int .i64 (w64 (x237 + 1))]) (cs' := #[.slice A268 ((x232 ++ ([0] : List Int)).set (w64 (((x232 ++ ([0] : List Int)).length : Int) - 1)).toNat (Go.bits .or .u8 (rd (x232 ++ ([0] : List Int)) (w64 (((x232 ++ ([0] : List Int)).length : Int) - 1))) (u8 ((u8 (Go.bits .and .i64 (shr v9 (min (n231).toNat 64)) 1)) * 2 ^ (min (w64 (7 - (Int.tmod x237 8))).toNat 8))))).length c269, .int .i64 (w64 (x237 + 1))]) rfl (by kernel_rfl) (by kernel_rfl : _ = Value.pointer (some ⟨b1, 1, none⟩)) (by kernel_rfl : _ = Value.int .i64 (w64 (x237 + 1))) rfl rfl (by intro u_ hu_; simp only [List.mem_cons, List.not_mem_nil, or_false] at hu_; subst hu_; rfl) HS299 (Nat.le_of_ble_eq_true rfl) (by kernel_rfl) ?_)
      intro W300 HS301
      refine wpList_nil ?_
      refine hn248 _ _ ?_
      refine hK245 _ _ ?_
      refine wp_region_lit ?_
      refine seqS3 (a' := ⟨#[.pointer (some ⟨b1, 0, none⟩), iV v9, iV (w64 (n231 - 1)), uV, uV, uV, iV n10, iV (w64 (n10 - 1)), iV n231, .bool true, iV n231, iV (w64 (n231 - 1)), .pointer (some ⟨b1, 0, none⟩), .pointer (some ⟨b1, 0, none⟩), .pointer (some ⟨b1, 1, none⟩), iV x237, iV (Int.tmod x237 8), .bool true, .pointer (some ⟨b1, 0, none⟩), .pointer (some ⟨b1, 0, none⟩), .pointer (some ⟨b1, 0, none⟩), .pointer (some ⟨b1, 0, none⟩), .slice A233 x232.length c234, .slice (some ⟨b259, 0, none⟩) ([0] : List Int).length 1, .slice A268 ((x232 ++ ([0] : List Int)).set (w64 (((x232 ++ ([0] : List Int)).length : Int) - 1)).toNat (Go.bits .or .u8 (rd (x232 ++ ([0] : List Int)) (w64 (((x232 ++ ([0] : List Int)).length : Int) - 1))) (u8 ((u8 (Go.bits .and .i64 (shr v9 (min (n231).toNat 64)) 1)) * 2 ^ (min (w64 (7 - (Int.tmod x237 8))).toNat 8))))).length c269, .pointer (some ⟨b1, 0, none⟩), .pointer (some ⟨b1, 0, none⟩), .pointer (some ⟨b1, 0, none⟩), .pointer (some ⟨b1, 0, none⟩), .pointer (some ⟨b1, 0, none⟩), .slice A268 ((x232 ++ ([0] : List Int)).set (w64 (((x232 ++ ([0] : List Int)).length : Int) - 1)).toNat (Go.bits .or .u8 (rd (x232 ++ ([0] : List Int)) (w64 (((x232 ++ ([0] : List Int)).length : Int) - 1))) (u8 ((u8 (Go.bits .and .i64 (shr v9 (min (n231).toNat 64)) 1)) * 2 ^ (min (w64 (7 - (Int.tmod x237 8))).toNat 8))))).length c269, .pointer (some ⟨b1, 0, none⟩), .pointer (some ⟨b1, 0, none⟩), .pointer (some ⟨b1, 0, none⟩), .slice A268 ((x232 ++ ([0] : List Int)).set (w64 (((x232 ++ ([0] : List Int)).length : Int) - 1)).toNat (Go.bits .or .u8 (rd (x232 ++ ([0] : List Int)) (w64 (((x232 ++ ([0] : List Int)).length : Int) - 1))) (u8 ((u8 (Go.bits .and .i64 (shr v9 (min (n231).toNat 64)) 1)) * 2 ^ (min (w64 (7 - (Int.tmod x237 8))).toNat 8))))).length c269, iV ((x232 ++ ([0] : List Int)).length : Int), iV (w64 (((x232 ++ ([0] : List Int)).length : Int) - 1)), .pointer (some ⟨b288, of289 + (w64 (((x232 ++ ([0] : List Int)).length : Int) - 1) : Int).toNat * 1, none⟩), .int .u8 (rd (x232 ++ ([0] : List Int)) (w64 (((x232 ++ ([0] : List Int)).length : Int) - 1))), iV v9, iV n231, iV (shr v9 (min (n231).toNat 64)), iV (Go.bits .and .i64 (shr v9 (min (n231).toNat 64)) 1), .int .u8 (u8 (Go.bits .and .i64 (shr v9 (min (n231).toNat 64)) 1)), .pointer (some ⟨b1, 0, none⟩), .pointer (some ⟨b1, 0, none⟩), .pointer (some ⟨b1, 1, none⟩), iV x237, iV (Int.tmod x237 8), iV (w64 (7 - (Int.tmod x237 8))), .int .u8 (u8 ((u8 (Go.bits .and .i64 (shr v9 (min (n231).toNat 64)) 1)) * 2 ^ (min (w64 (7 - (Int.tmod x237 8))).toNat 8))), .int .u8 (Go.bits .or .u8 (rd (x232 ++ ([0] : List Int)) (w64 (((x232 ++ ([0] : List Int)).length : Int) - 1))) (u8 ((u8 (Go.bits .and .i64 (shr v9 (min (n231).toNat 64)) 1)) * 2 ^ (min (w64 (7 - (Int.tmod x237 8))).toNat 8)))), .pointer (some ⟨b288, of289 + (w64 (((x232 ++ ([0] : List Int)).length : Int) - 1) : Int).toNat * 1, none⟩), .pointer (some ⟨b1, 0, none⟩), .pointer (some ⟨b1, 0, none⟩), .pointer (some ⟨b1, 1, none⟩), iV x237, iV (w64 (x237 + 1)), .pointer (some ⟨b1, 0, none⟩), .pointer (some ⟨b1, 1, none⟩)], []⟩) (by kernel_rfl) ?_
      refine wpList_nil ?_
      refine hK224 n225 _ _ (Nat.lt_succ_self _) ?_
      exact ⟨f226, A268, c269, s295, (w64 (n231 - 1)), ((x232 ++ ([0] : List Int)).set (w64 (((x232 ++ ([0] : List Int)).length : Int) - 1)).toNat (Go.bits .or .u8 (rd (x232 ++ ([0] : List Int)) (w64 (((x232 ++ ([0] : List Int)).length : Int) - 1))) (u8 ((u8 (Go.bits .and .i64 (shr v9 (min (n231).toNat 64)) 1)) * 2 ^ (min (w64 (7 - (Int.tmod x237 8))).toNat 8))))), (w64 (x237 + 1)), (fun i_ => [Value.int .i64 n231, Value.bool true, Value.int .i64 n231, Value.int .i64 (w64 (n231 - 1)), Value.pointer (some ⟨b1, 0, none⟩), Value.pointer (some ⟨b1, 0, none⟩), Value.pointer (some ⟨b1, 1, none⟩), Value.int .i64 x237, Value.int .i64 (Int.tmod x237 8), Value.bool true, Value.pointer (some ⟨b1, 0, none⟩), Value.pointer (some ⟨b1, 0, none⟩), Value.pointer (some ⟨b1, 0, none⟩), Value.pointer (some ⟨b1, 0, none⟩), Value.slice A233 x232.length c234, Value.slice (some ⟨b259, 0, none⟩) ([0] : List Int).length 1, Value.slice A268 ((x232 ++ ([0] : List Int)).set (w64 (((x232 ++ ([0] : List Int)).length : Int) - 1)).toNat (Go.bits .or .u8 (rd (x232 ++ ([0] : List Int)) (w64 (((x232 ++ ([0] : List Int)).length : Int) - 1))) (u8 ((u8 (Go.bits .and .i64 (shr v9 (min (n231).toNat 64)) 1)) * 2 ^ (min (w64 (7 - (Int.tmod x237 8))).toNat 8))))).length c269, Value.pointer (some ⟨b1, 0, none⟩), Value.pointer (some ⟨b1, 0, none⟩), Value.pointer (some ⟨b1, 0, none⟩), Value.pointer (some ⟨b1, 0, none⟩), Value.pointer (some ⟨b1, 0, none⟩), Value.slice A268 ((x232 ++ ([0] : List Int)).set (w64 (((x232 ++ ([0] : List Int)).length : Int) - 1)).toNat (Go.bits .or .u8 (rd (x232 ++ ([0] : List Int)) (w64 (((x232 ++ ([0] : List Int)).length : Int) - 1))) (u8 ((u8 (Go.bits .and .i64 (shr v9 (min (n231).toNat 64)) 1)) * 2 ^ (min (w64 (7 - (Int.tmod x237 8))).toNat 8))))).length c269, Value.pointer (some ⟨b1, 0, none⟩), Value.pointer (some ⟨b1, 0, none⟩), Value.pointer (some ⟨b1, 0, none⟩), Value.slice A268 ((x232 ++ ([0] : List Int)).set (w64 (((x232 ++ ([0] : List Int)).length : Int) - 1)).toNat (Go.bits .or .u8 (rd (x232 ++ ([0] : List Int)) (w64 (((x232 ++ ([0] : List Int)).length : Int) - 1))) (u8 ((u8 (Go.bits .and .i64 (shr v9 (min (n231).toNat 64)) 1)) * 2 ^ (min (w64 (7 - (Int.tmod x237 8))).toNat 8))))).length c269, Value.int .i64 ((x232 ++ ([0] : List Int)).length : Int), Value.int .i64 (w64 (((x232 ++ ([0] : List Int)).length : Int) - 1)), Value.pointer (some ⟨b288, of289 + (w64 (((x232 ++ ([0] : List Int)).length : Int) - 1) : Int).toNat * 1, none⟩), Value.int .u8 (rd (x232 ++ ([0] : List Int)) (w64 (((x232 ++ ([0] : List Int)).length : Int) - 1))), Value.int .i64 v9, Value.int .i64 n231, Value.int .i64 (shr v9 (min (n231).toNat 64)), Value.int .i64 (Go.bits .and .i64 (shr v9 (min (n231).toNat 64)) 1), Value.int .u8 (u8 (Go.bits .and .i64 (shr v9 (min (n231).toNat 64)) 1)), Value.pointer (some ⟨b1, 0, none⟩), Value.pointer (some ⟨b1, 0, none⟩), Value.pointer (some ⟨b1, 1, none⟩), Value.int .i64 x237, Value.int .i64 (Int.tmod x237 8), Value.int .i64 (w64 (7 - (Int.tmod x237 8))), Value.int .u8 (u8 ((u8 (Go.bits .and .i64 (shr v9 (min (n231).toNat 64)) 1)) * 2 ^ (min (w64 (7 - (Int.tmod x237 8))).toNat 8))), Value.int .u8 (Go.bits .or .u8 (rd (x232 ++ ([0] : List Int)) (w64 (((x232 ++ ([0] : List Int)).length : Int) - 1))) (u8 ((u8 (Go.bits .and .i64 (shr v9 (min (n231).toNat 64)) 1)) * 2 ^ (min (w64 (7 - (Int.tmod x237 8))).toNat 8)))), Value.pointer (some ⟨b288, of289 + (w64 (((x232 ++ ([0] : List Int)).length : Int) - 1) : Int).toNat * 1, none⟩), Value.pointer (some ⟨b1, 0, none⟩), Value.pointer (some ⟨b1, 0, none⟩), Value.pointer (some ⟨b1, 1, none⟩), Value.int .i64 x237, Value.int .i64 (w64 (x237 + 1)), Value.pointer (some ⟨b1, 0, none⟩), Value.pointer (some ⟨b1, 1, none⟩)].getD i_ undef), L227, HS301, HO297, h, (by kernel_rfl)⟩
    · have c258 : ¬ ((Int.tmod x237 8) = 0) := c258
      refine wpRwI 17 (x := ((Int.tmod x237 8) == 0)) (v := false) (by kernel_rfl) (beq_eq_false_iff_ne.mpr c258) ?_
      refine condF (by kernel_rfl) ?_
      refine wp_skip ?_
      refine hK254 _ _ ?_
      refine wp_seq_k (fun K302 hK303 => ?_)
      have HS304 := HS229.u1
      have HS305 := HS304.u1
      refine heldG (S := Sg t f226 (H) [(26, [(b1, .cells #[.slice A233 x232.length c234, .int .i64 x237] 80 (0, 0))]), (26, s235)]) (n := 27) (by kernel_rfl) rfl HS305 ?_
      intro W306 HS307
      refine takeG [0, 1, 2] (n := 27) (fuel := 24) (l' := #[true, true, true, false, false, false, false, false, false, false, false, false, false, false, false, false, false, false, false, false, false, false, false, false, false, false, false]) (a' := ⟨#[.pointer (some ⟨b1, 0, none⟩), iV v9, iV n231, uV, uV, uV, iV n10, iV (w64 (n10 - 1)), iV n231, .bool true, (j230 2), (j230 3), .pointer (some ⟨b1, 0, none⟩), .pointer (some ⟨b1, 0, none⟩), .pointer (some ⟨b1, 1, none⟩), iV x237, iV (Int.tmod x237 8), .bool false, (j230 10), (j230 11), (j230 12), (j230 13), (j230 14), (j230 15), (j230 16), (j230 17), (j230 18), .pointer (some ⟨b1, 0, none⟩), .pointer (some ⟨b1, 0, none⟩), .pointer (some ⟨b1, 0, none⟩), (j230 22), (j230 23), (j230 24), (j230 25), (j230 26), (j230 27), (j230 28), (j230 29), (j230 30), (j230 31), (j230 32), (j230 33), (j230 34), (j230 35), (j230 36), (j230 37), (j230 38), (j230 39), (j230 40), (j230 41), (j230 42), (j230 43), (j230 44), (j230 45), (j230 46), (j230 47), (j230 48), (j230 49), (j230 50), (j230 51)], []⟩) rfl (by kernel_rfl) (by kernel_rfl) (by kernel_rfl) (fun ch_ a_ w_ q_ => (fun ch_ a_ w_ q_ => hnp ch_ a_ w_ (hp18 ch_ a_ w_ q_)) ch_ a_ w_ (hp251 ch_ a_ w_ q_)) (Sg.g2 (Sx.of [[(b1, .cells #[.slice A233 x232.length c234, .int .i64 x237] 80 (0, 0))], s235] (FM.le.refl _) HS307) (fun _ => St.only [] HS307 (FM.le.refl _)) (fun _ => St.only [[(b1, .cells #[.slice A233 x232.length c234, .int .i64 x237] 80 (0, 0))]] HS307 (FM.le.refl _))) ?_
      refine takeGQ 3 [26] rfl (by kernel_rfl) (by kernel_rfl) (by kernel_rfl) (by kernel_rfl) (by kernel_rfl) (by kernel_rfl) (fun ch_ a_ w_ q_ => (fun ch_ a_ w_ q_ => hnp ch_ a_ w_ (hp18 ch_ a_ w_ q_)) ch_ a_ w_ (hp251 ch_ a_ w_ q_)) (Sg.g2 (Sx.of [[(b1, .cells #[.slice A233 x232.length c234, .int .i64 x237] 80 (0, 0))], s235] (FM.le.refl _) HS307) (fun _ => St.only [] HS307 (FM.le.refl _)) (fun _ => St.only [[(b1, .cells #[.slice A233 x232.length c234, .int .i64 x237] 80 (0, 0))]] HS307 (FM.le.refl _))) (fun w_ hw_ => by obtain ⟨g_, hl_, hS_⟩ := hw_.seg (j := 26) (s := [(b1, .cells #[.slice A233 x232.length c234, .int .i64 x237] 80 (0, 0))]) (by simp) (by simp); exact run_load rfl Tryd.underlying23 rfl (by kernel_rfl : _ = Value.pointer (some ⟨b1, 0, none⟩)) (hS_.cell 0)) ?_
      refine takeG [4, 5, 6] (n := 23) (fuel := 20) (l' := #[true, true, true, true, true, true, true, false, false, false, false, false, false, false, false, false, false, false, false, false, false, false, false, false, false, false, false]) (a' := ⟨#[.pointer (some ⟨b1, 0, none⟩), iV v9, iV n231, uV, uV, uV, iV n10, iV (w64 (n10 - 1)), iV n231, .bool true, (j230 2), (j230 3), .pointer (some ⟨b1, 0, none⟩), .pointer (some ⟨b1, 0, none⟩), .pointer (some ⟨b1, 1, none⟩), iV x237, iV (Int.tmod x237 8), .bool false, (j230 10), (j230 11), (j230 12), (j230 13), (j230 14), (j230 15), (j230 16), (j230 17), (j230 18), .pointer (some ⟨b1, 0, none⟩), .pointer (some ⟨b1, 0, none⟩), .pointer (some ⟨b1, 0, none⟩), .slice A233 x232.length c234, .pointer (some ⟨b1, 0, none⟩), .pointer (some ⟨b1, 0, none⟩), .pointer (some ⟨b1, 0, none⟩), (j230 26), (j230 27), (j230 28), (j230 29), (j230 30), (j230 31), (j230 32), (j230 33), (j230 34), (j230 35), (j230 36), (j230 37), (j230 38), (j230 39), (j230 40), (j230 41), (j230 42), (j230 43), (j230 44), (j230 45), (j230 46), (j230 47), (j230 48), (j230 49), (j230 50), (j230 51)], []⟩) rfl (by kernel_rfl) (by kernel_rfl) (by kernel_rfl) (fun ch_ a_ w_ q_ => (fun ch_ a_ w_ q_ => hnp ch_ a_ w_ (hp18 ch_ a_ w_ q_)) ch_ a_ w_ (hp251 ch_ a_ w_ q_)) (Sg.g2 (Sx.of [[(b1, .cells #[.slice A233 x232.length c234, .int .i64 x237] 80 (0, 0))], s235] (FM.le.refl _) HS307) (fun _ => St.only [] HS307 (FM.le.refl _)) (fun _ => St.only [[(b1, .cells #[.slice A233 x232.length c234, .int .i64 x237] 80 (0, 0))]] HS307 (FM.le.refl _))) ?_
      refine takeGQ 7 [26] rfl (by kernel_rfl) (by kernel_rfl) (by kernel_rfl) (by kernel_rfl) (by kernel_rfl) (by kernel_rfl) (fun ch_ a_ w_ q_ => (fun ch_ a_ w_ q_ => hnp ch_ a_ w_ (hp18 ch_ a_ w_ q_)) ch_ a_ w_ (hp251 ch_ a_ w_ q_)) (Sg.g2 (Sx.of [[(b1, .cells #[.slice A233 x232.length c234, .int .i64 x237] 80 (0, 0))], s235] (FM.le.refl _) HS307) (fun _ => St.only [] HS307 (FM.le.refl _)) (fun _ => St.only [[(b1, .cells #[.slice A233 x232.length c234, .int .i64 x237] 80 (0, 0))]] HS307 (FM.le.refl _))) (fun w_ hw_ => by obtain ⟨g_, hl_, hS_⟩ := hw_.seg (j := 26) (s := [(b1, .cells #[.slice A233 x232.length c234, .int .i64 x237] 80 (0, 0))]) (by simp) (by simp); exact run_load rfl Tryd.underlying23 rfl (by kernel_rfl : _ = Value.pointer (some ⟨b1, 0, none⟩)) (hS_.cell 0)) ?_
      have hq_ := guard_some h; clear h; obtain ⟨c308, h⟩ := hq_
      have c308 : 0 ≤ (w64 ((x232.length : Int) - 1)) := c308
      have hq_ := guard_some h; clear h; obtain ⟨c309, h⟩ := hq_
      have c309 : (w64 ((x232.length : Int) - 1)) < (x232.length : Int) := c309
      obtain ⟨b313, of314, cs310, hA315, hr311, hc312⟩ := HO236.at (i := w64 ((x232.length : Int) - 1)) c308 c309
      obtain rfl := hr311
      refine takeG [8, 9] (n := 19) (fuel := 17) (l' := #[true, true, true, true, true, true, true, true, true, true, false, false, false, false, false, false, false, false, false, false, false, false, false, false, false, false, false]) (a' := ⟨#[.pointer (some ⟨b1, 0, none⟩), iV v9, iV n231, uV, uV, uV, iV n10, iV (w64 (n10 - 1)), iV n231, .bool true, (j230 2), (j230 3), .pointer (some ⟨b1, 0, none⟩), .pointer (some ⟨b1, 0, none⟩), .pointer (some ⟨b1, 1, none⟩), iV x237, iV (Int.tmod x237 8), .bool false, (j230 10), (j230 11), (j230 12), (j230 13), (j230 14), (j230 15), (j230 16), (j230 17), (j230 18), .pointer (some ⟨b1, 0, none⟩), .pointer (some ⟨b1, 0, none⟩), .pointer (some ⟨b1, 0, none⟩), .slice A233 x232.length c234, .pointer (some ⟨b1, 0, none⟩), .pointer (some ⟨b1, 0, none⟩), .pointer (some ⟨b1, 0, none⟩), .slice A233 x232.length c234, iV (x232.length : Int), iV (w64 ((x232.length : Int) - 1)), (j230 29), (j230 30), (j230 31), (j230 32), (j230 33), (j230 34), (j230 35), (j230 36), (j230 37), (j230 38), (j230 39), (j230 40), (j230 41), (j230 42), (j230 43), (j230 44), (j230 45), (j230 46), (j230 47), (j230 48), (j230 49), (j230 50), (j230 51)], []⟩) rfl (by kernel_rfl) (by kernel_rfl) (by kernel_rfl) (fun ch_ a_ w_ q_ => (fun ch_ a_ w_ q_ => hnp ch_ a_ w_ (hp18 ch_ a_ w_ q_)) ch_ a_ w_ (hp251 ch_ a_ w_ q_)) (Sg.g2 (Sx.of [[(b1, .cells #[.slice A233 x232.length c234, .int .i64 x237] 80 (0, 0))], s235] (FM.le.refl _) HS307) (fun _ => St.only [] HS307 (FM.le.refl _)) (fun _ => St.only [[(b1, .cells #[.slice A233 x232.length c234, .int .i64 x237] 80 (0, 0))]] HS307 (FM.le.refl _))) ?_
      refine takeGQ 10 [] rfl (by kernel_rfl) (by kernel_rfl) (by kernel_rfl) (by kernel_rfl) (by kernel_rfl) (by kernel_rfl) (fun ch_ a_ w_ q_ => (fun ch_ a_ w_ q_ => hnp ch_ a_ w_ (hp18 ch_ a_ w_ q_)) ch_ a_ w_ (hp251 ch_ a_ w_ q_)) (Sg.g2 (Sx.of [[(b1, .cells #[.slice A233 x232.length c234, .int .i64 x237] 80 (0, 0))], s235] (FM.le.refl _) HS307) (fun _ => St.only [] HS307 (FM.le.refl _)) (fun _ => St.only [[(b1, .cells #[.slice A233 x232.length c234, .int .i64 x237] 80 (0, 0))]] HS307 (FM.le.refl _))) (fun w_ hw_ => by obtain ⟨g_, hl_, hS_⟩ := hw_.st; exact run_indexE hA315 (sz := 1) rfl Tryd.underlying23 (by kernel_rfl) (by kernel_rfl : _ = Value.slice A233 x232.length c234) (by kernel_rfl : _ = Value.int .i64 (w64 ((x232.length : Int) - 1))) c308 c309 w_) ?_
      refine takeGQ 11 [26] rfl (by kernel_rfl) (by kernel_rfl) (by kernel_rfl) (by kernel_rfl) (by kernel_rfl) (by kernel_rfl) (fun ch_ a_ w_ q_ => (fun ch_ a_ w_ q_ => hnp ch_ a_ w_ (hp18 ch_ a_ w_ q_)) ch_ a_ w_ (hp251 ch_ a_ w_ q_)) (Sg.g2 (Sx.of [[(b1, .cells #[.slice A233 x232.length c234, .int .i64 x237] 80 (0, 0))], s235] (FM.le.refl _) HS307) (fun _ => St.only [] HS307 (FM.le.refl _)) (fun _ => St.only [[(b1, .cells #[.slice A233 x232.length c234, .int .i64 x237] 80 (0, 0))]] HS307 (FM.le.refl _))) (fun w_ hw_ => by obtain ⟨g_, hl_, hS_⟩ := hw_.seg (j := 26) (s := s235) (by simp) (by simp); exact run_load rfl Tryd.underlying5 rfl (by kernel_rfl : _ = Value.pointer (some ⟨b313, of314 + (w64 ((x232.length : Int) - 1) : Int).toNat * 1, none⟩)) ((hc312 hS_) 0 (by decide))) ?_
      have hq_ := guard_some h; clear h; obtain ⟨c316, h⟩ := hq_
      have c316 : ¬ (n231 < 0) := c316
      refine takeG [12, 13] (n := 15) (fuel := 13) (l' := #[true, true, true, true, true, true, true, true, true, true, true, true, true, true, false, false, false, false, false, false, false, false, false, false, false, false, false]) (a' := ⟨#[.pointer (some ⟨b1, 0, none⟩), iV v9, iV n231, uV, uV, uV, iV n10, iV (w64 (n10 - 1)), iV n231, .bool true, (j230 2), (j230 3), .pointer (some ⟨b1, 0, none⟩), .pointer (some ⟨b1, 0, none⟩), .pointer (some ⟨b1, 1, none⟩), iV x237, iV (Int.tmod x237 8), .bool false, (j230 10), (j230 11), (j230 12), (j230 13), (j230 14), (j230 15), (j230 16), (j230 17), (j230 18), .pointer (some ⟨b1, 0, none⟩), .pointer (some ⟨b1, 0, none⟩), .pointer (some ⟨b1, 0, none⟩), .slice A233 x232.length c234, .pointer (some ⟨b1, 0, none⟩), .pointer (some ⟨b1, 0, none⟩), .pointer (some ⟨b1, 0, none⟩), .slice A233 x232.length c234, iV (x232.length : Int), iV (w64 ((x232.length : Int) - 1)), .pointer (some ⟨b313, of314 + (w64 ((x232.length : Int) - 1) : Int).toNat * 1, none⟩), .int .u8 (rd x232 (w64 ((x232.length : Int) - 1))), iV v9, iV n231, (j230 33), (j230 34), (j230 35), (j230 36), (j230 37), (j230 38), (j230 39), (j230 40), (j230 41), (j230 42), (j230 43), (j230 44), (j230 45), (j230 46), (j230 47), (j230 48), (j230 49), (j230 50), (j230 51)], []⟩) rfl (by kernel_rfl) (by kernel_rfl) (by kernel_rfl) (fun ch_ a_ w_ q_ => (fun ch_ a_ w_ q_ => hnp ch_ a_ w_ (hp18 ch_ a_ w_ q_)) ch_ a_ w_ (hp251 ch_ a_ w_ q_)) (Sg.g2 (Sx.of [[(b1, .cells #[.slice A233 x232.length c234, .int .i64 x237] 80 (0, 0))], s235] (FM.le.refl _) HS307) (fun _ => St.only [] HS307 (FM.le.refl _)) (fun _ => St.only [[(b1, .cells #[.slice A233 x232.length c234, .int .i64 x237] 80 (0, 0))]] HS307 (FM.le.refl _))) ?_
      refine takeGQ 14 [] rfl (by kernel_rfl) (by kernel_rfl) (by kernel_rfl) (by kernel_rfl) (by kernel_rfl) (by kernel_rfl) (fun ch_ a_ w_ q_ => (fun ch_ a_ w_ q_ => hnp ch_ a_ w_ (hp18 ch_ a_ w_ q_)) ch_ a_ w_ (hp251 ch_ a_ w_ q_)) (Sg.g2 (Sx.of [[(b1, .cells #[.slice A233 x232.length c234, .int .i64 x237] 80 (0, 0))], s235] (FM.le.refl _) HS307) (fun _ => St.only [] HS307 (FM.le.refl _)) (fun _ => St.only [[(b1, .cells #[.slice A233 x232.length c234, .int .i64 x237] 80 (0, 0))]] HS307 (FM.le.refl _))) (fun w_ hw_ => by obtain ⟨g_, hl_, hS_⟩ := hw_.st; exact run_shr rfl (by kernel_rfl : _ = Value.int .i64 v9) (by kernel_rfl : _ = Value.int .i64 n231) c316 w_) ?_
      refine takeG [15, 16, 17, 18, 19] (n := 12) (fuel := 7) (l' := #[true, true, true, true, true, true, true, true, true, true, true, true, true, true, true, true, true, true, true, true, false, false, false, false, false, false, false]) (a' := ⟨#[.pointer (some ⟨b1, 0, none⟩), iV v9, iV n231, uV, uV, uV, iV n10, iV (w64 (n10 - 1)), iV n231, .bool true, (j230 2), (j230 3), .pointer (some ⟨b1, 0, none⟩), .pointer (some ⟨b1, 0, none⟩), .pointer (some ⟨b1, 1, none⟩), iV x237, iV (Int.tmod x237 8), .bool false, (j230 10), (j230 11), (j230 12), (j230 13), (j230 14), (j230 15), (j230 16), (j230 17), (j230 18), .pointer (some ⟨b1, 0, none⟩), .pointer (some ⟨b1, 0, none⟩), .pointer (some ⟨b1, 0, none⟩), .slice A233 x232.length c234, .pointer (some ⟨b1, 0, none⟩), .pointer (some ⟨b1, 0, none⟩), .pointer (some ⟨b1, 0, none⟩), .slice A233 x232.length c234, iV (x232.length : Int), iV (w64 ((x232.length : Int) - 1)), .pointer (some ⟨b313, of314 + (w64 ((x232.length : Int) - 1) : Int).toNat * 1, none⟩), .int .u8 (rd x232 (w64 ((x232.length : Int) - 1))), iV v9, iV n231, iV (shr v9 (min (n231).toNat 64)), iV (Go.bits .and .i64 (shr v9 (min (n231).toNat 64)) 1), .int .u8 (u8 (Go.bits .and .i64 (shr v9 (min (n231).toNat 64)) 1)), .pointer (some ⟨b1, 0, none⟩), .pointer (some ⟨b1, 0, none⟩), .pointer (some ⟨b1, 1, none⟩), (j230 39), (j230 40), (j230 41), (j230 42), (j230 43), (j230 44), (j230 45), (j230 46), (j230 47), (j230 48), (j230 49), (j230 50), (j230 51)], []⟩) rfl (by kernel_rfl) (by kernel_rfl) (by kernel_rfl) (fun ch_ a_ w_ q_ => (fun ch_ a_ w_ q_ => hnp ch_ a_ w_ (hp18 ch_ a_ w_ q_)) ch_ a_ w_ (hp251 ch_ a_ w_ q_)) (Sg.g2 (Sx.of [[(b1, .cells #[.slice A233 x232.length c234, .int .i64 x237] 80 (0, 0))], s235] (FM.le.refl _) HS307) (fun _ => St.only [] HS307 (FM.le.refl _)) (fun _ => St.only [[(b1, .cells #[.slice A233 x232.length c234, .int .i64 x237] 80 (0, 0))]] HS307 (FM.le.refl _))) ?_
      refine takeGQ 20 [26] rfl (by kernel_rfl) (by kernel_rfl) (by kernel_rfl) (by kernel_rfl) (by kernel_rfl) (by kernel_rfl) (fun ch_ a_ w_ q_ => (fun ch_ a_ w_ q_ => hnp ch_ a_ w_ (hp18 ch_ a_ w_ q_)) ch_ a_ w_ (hp251 ch_ a_ w_ q_)) (Sg.g2 (Sx.of [[(b1, .cells #[.slice A233 x232.length c234, .int .i64 x237] 80 (0, 0))], s235] (FM.le.refl _) HS307) (fun _ => St.only [] HS307 (FM.le.refl _)) (fun _ => St.only [[(b1, .cells #[.slice A233 x232.length c234, .int .i64 x237] 80 (0, 0))]] HS307 (FM.le.refl _))) (fun w_ hw_ => by obtain ⟨g_, hl_, hS_⟩ := hw_.seg (j := 26) (s := [(b1, .cells #[.slice A233 x232.length c234, .int .i64 x237] 80 (0, 0))]) (by simp) (by simp); exact run_load rfl Tryd.underlying3 rfl (by kernel_rfl : _ = Value.pointer (some ⟨b1, 1, none⟩)) (hS_.cell 1)) ?_
      have hq_ := guard_some h; clear h; obtain ⟨c317, h⟩ := hq_
      have c317 : ¬ ((w64 (7 - (Int.tmod x237 8))) < 0) := c317
      refine takeG [21, 22] (n := 6) (fuel := 4) (l' := #[true, true, true, true, true, true, true, true, true, true, true, true, true, true, true, true, true, true, true, true, true, true, true, false, false, false, false]) (a' := ⟨#[.pointer (some ⟨b1, 0, none⟩), iV v9, iV n231, uV, uV, uV, iV n10, iV (w64 (n10 - 1)), iV n231, .bool true, (j230 2), (j230 3), .pointer (some ⟨b1, 0, none⟩), .pointer (some ⟨b1, 0, none⟩), .pointer (some ⟨b1, 1, none⟩), iV x237, iV (Int.tmod x237 8), .bool false, (j230 10), (j230 11), (j230 12), (j230 13), (j230 14), (j230 15), (j230 16), (j230 17), (j230 18), .pointer (some ⟨b1, 0, none⟩), .pointer (some ⟨b1, 0, none⟩), .pointer (some ⟨b1, 0, none⟩), .slice A233 x232.length c234, .pointer (some ⟨b1, 0, none⟩), .pointer (some ⟨b1, 0, none⟩), .pointer (some ⟨b1, 0, none⟩), .slice A233 x232.length c234, iV (x232.length : Int), iV (w64 ((x232.length : Int) - 1)), .pointer (some ⟨b313, of314 + (w64 ((x232.length : Int) - 1) : Int).toNat * 1, none⟩), .int .u8 (rd x232 (w64 ((x232.length : Int) - 1))), iV v9, iV n231, iV (shr v9 (min (n231).toNat 64)), iV (Go.bits .and .i64 (shr v9 (min (n231).toNat 64)) 1), .int .u8 (u8 (Go.bits .and .i64 (shr v9 (min (n231).toNat 64)) 1)), .pointer (some ⟨b1, 0, none⟩), .pointer (some ⟨b1, 0, none⟩), .pointer (some ⟨b1, 1, none⟩), iV x237, iV (Int.tmod x237 8), iV (w64 (7 - (Int.tmod x237 8))), (j230 42), (j230 43), (j230 44), (j230 45), (j230 46), (j230 47), (j230 48), (j230 49), (j230 50), (j230 51)], []⟩) rfl (by kernel_rfl) (by kernel_rfl) (by kernel_rfl) (fun ch_ a_ w_ q_ => (fun ch_ a_ w_ q_ => hnp ch_ a_ w_ (hp18 ch_ a_ w_ q_)) ch_ a_ w_ (hp251 ch_ a_ w_ q_)) (Sg.g2 (Sx.of [[(b1, .cells #[.slice A233 x232.length c234, .int .i64 x237] 80 (0, 0))], s235] (FM.le.refl _) HS307) (fun _ => St.only [] HS307 (FM.le.refl _)) (fun _ => St.only [[(b1, .cells #[.slice A233 x232.length c234, .int .i64 x237] 80 (0, 0))]] HS307 (FM.le.refl _))) ?_
      refine takeGQ 23 [] rfl (by kernel_rfl) (by kernel_rfl) (by kernel_rfl) (by kernel_rfl) (by kernel_rfl) (by kernel_rfl) (fun ch_ a_ w_ q_ => (fun ch_ a_ w_ q_ => hnp ch_ a_ w_ (hp18 ch_ a_ w_ q_)) ch_ a_ w_ (hp251 ch_ a_ w_ q_)) (Sg.g2 (Sx.of [[(b1, .cells #[.slice A233 x232.length c234, .int .i64 x237] 80 (0, 0))], s235] (FM.le.refl _) HS307) (fun _ => St.only [] HS307 (FM.le.refl _)) (fun _ => St.only [[(b1, .cells #[.slice A233 x232.length c234, .int .i64 x237] 80 (0, 0))]] HS307 (FM.le.refl _))) (fun w_ hw_ => by obtain ⟨g_, hl_, hS_⟩ := hw_.st; exact run_shl rfl (by kernel_rfl : _ = Value.int .u8 (u8 (Go.bits .and .i64 (shr v9 (min (n231).toNat 64)) 1))) (by kernel_rfl : _ = Value.int .i64 (w64 (7 - (Int.tmod x237 8)))) c317 w_) ?_
      refine takeG [24] (n := 3) (fuel := 2) (l' := #[true, true, true, true, true, true, true, true, true, true, true, true, true, true, true, true, true, true, true, true, true, true, true, true, true, false, false]) (a' := ⟨#[.pointer (some ⟨b1, 0, none⟩), iV v9, iV n231, uV, uV, uV, iV n10, iV (w64 (n10 - 1)), iV n231, .bool true, (j230 2), (j230 3), .pointer (some ⟨b1, 0, none⟩), .pointer (some ⟨b1, 0, none⟩), .pointer (some ⟨b1, 1, none⟩), iV x237, iV (Int.tmod x237 8), .bool false, (j230 10), (j230 11), (j230 12), (j230 13), (j230 14), (j230 15), (j230 16), (j230 17), (j230 18), .pointer (some ⟨b1, 0, none⟩), .pointer (some ⟨b1, 0, none⟩), .pointer (some ⟨b1, 0, none⟩), .slice A233 x232.length c234, .pointer (some ⟨b1, 0, none⟩), .pointer (some ⟨b1, 0, none⟩), .pointer (some ⟨b1, 0, none⟩), .slice A233 x232.length c234, iV (x232.length : Int), iV (w64 ((x232.length : Int) - 1)), .pointer (some ⟨b313, of314 + (w64 ((x232.length : Int) - 1) : Int).toNat * 1, none⟩), .int .u8 (rd x232 (w64 ((x232.length : Int) - 1))), iV v9, iV n231, iV (shr v9 (min (n231).toNat 64)), iV (Go.bits .and .i64 (shr v9 (min (n231).toNat 64)) 1), .int .u8 (u8 (Go.bits .and .i64 (shr v9 (min (n231).toNat 64)) 1)), .pointer (some ⟨b1, 0, none⟩), .pointer (some ⟨b1, 0, none⟩), .pointer (some ⟨b1, 1, none⟩), iV x237, iV (Int.tmod x237 8), iV (w64 (7 - (Int.tmod x237 8))), .int .u8 (u8 ((u8 (Go.bits .and .i64 (shr v9 (min (n231).toNat 64)) 1)) * 2 ^ (min (w64 (7 - (Int.tmod x237 8))).toNat 8))), .int .u8 (Go.bits .or .u8 (rd x232 (w64 ((x232.length : Int) - 1))) (u8 ((u8 (Go.bits .and .i64 (shr v9 (min (n231).toNat 64)) 1)) * 2 ^ (min (w64 (7 - (Int.tmod x237 8))).toNat 8)))), (j230 44), (j230 45), (j230 46), (j230 47), (j230 48), (j230 49), (j230 50), (j230 51)], []⟩) rfl (by kernel_rfl) (by kernel_rfl) (by kernel_rfl) (fun ch_ a_ w_ q_ => (fun ch_ a_ w_ q_ => hnp ch_ a_ w_ (hp18 ch_ a_ w_ q_)) ch_ a_ w_ (hp251 ch_ a_ w_ q_)) (Sg.g2 (Sx.of [[(b1, .cells #[.slice A233 x232.length c234, .int .i64 x237] 80 (0, 0))], s235] (FM.le.refl _) HS307) (fun _ => St.only [] HS307 (FM.le.refl _)) (fun _ => St.only [[(b1, .cells #[.slice A233 x232.length c234, .int .i64 x237] 80 (0, 0))]] HS307 (FM.le.refl _))) ?_
      refine takeGQ 25 [] rfl (by kernel_rfl) (by kernel_rfl) (by kernel_rfl) (by kernel_rfl) (by kernel_rfl) (by kernel_rfl) (fun ch_ a_ w_ q_ => (fun ch_ a_ w_ q_ => hnp ch_ a_ w_ (hp18 ch_ a_ w_ q_)) ch_ a_ w_ (hp251 ch_ a_ w_ q_)) (Sg.g2 (Sx.of [[(b1, .cells #[.slice A233 x232.length c234, .int .i64 x237] 80 (0, 0))], s235] (FM.le.refl _) HS307) (fun _ => St.only [] HS307 (FM.le.refl _)) (fun _ => St.only [[(b1, .cells #[.slice A233 x232.length c234, .int .i64 x237] 80 (0, 0))]] HS307 (FM.le.refl _))) (fun w_ hw_ => by obtain ⟨g_, hl_, hS_⟩ := hw_.st; exact run_indexE hA315 (sz := 1) rfl Tryd.underlying23 (by kernel_rfl) (by kernel_rfl : _ = Value.slice A233 x232.length c234) (by kernel_rfl : _ = Value.int .i64 (w64 ((x232.length : Int) - 1))) c308 c309 w_) ?_
      have HS318 := HS307.u1
      refine takeGE 26 (by kernel_rfl) rfl (by kernel_rfl) (does_put (e := (tInt .u8)) (E := 5) (vs := [.int .u8 (Go.bits .or .u8 (rd x232 (w64 ((x232.length : Int) - 1))) (u8 ((u8 (Go.bits .and .i64 (shr v9 (min (n231).toNat 64)) 1)) * 2 ^ (min (w64 (7 - (Int.tmod x237 8))).toNat 8))))]) (u := Go.bits .or .u8 (rd x232 (w64 ((x232.length : Int) - 1))) (u8 ((u8 (Go.bits .and .i64 (shr v9 (min (n231).toNat 64)) 1)) * 2 ^ (min (w64 (7 - (Int.tmod x237 8))).toNat 8)))) (i := w64 ((x232.length : Int) - 1)) rfl (by kernel_rfl) HO236 HS318 hA315 (by kernel_rfl : _ = Value.pointer (some ⟨b313, of314 + (w64 ((x232.length : Int) - 1) : Int).toNat * 1, none⟩)) (by kernel_rfl : _ = Value.int .u8 (Go.bits .or .u8 (rd x232 (w64 ((x232.length : Int) - 1))) (u8 ((u8 (Go.bits .and .i64 (shr v9 (min (n231).toNat 64)) 1)) * 2 ^ (min (w64 (7 - (Int.tmod x237 8))).toNat 8))))) rfl rfl c308 c309 ?_)
      intro W319 s320 HS321 HO322
      have HS323 : St t W319 f226 (s320 :: [(b1, .cells #[.slice A233 (x232.set (w64 ((x232.length : Int) - 1)).toNat (Go.bits .or .u8 (rd x232 (w64 ((x232.length : Int) - 1))) (u8 ((u8 (Go.bits .and .i64 (shr v9 (min (n231).toNat 64)) 1)) * 2 ^ (min (w64 (7 - (Int.tmod x237 8))).toNat 8))))).length c234, .int .i64 x237] 80 (0, 0))] :: H) := by rw [show (x232.set (w64 ((x232.length : Int) - 1)).toNat (Go.bits .or .u8 (rd x232 (w64 ((x232.length : Int) - 1))) (u8 ((u8 (Go.bits .and .i64 (shr v9 (min (n231).toNat 64)) 1)) * 2 ^ (min (w64 (7 - (Int.tmod x237 8))).toNat 8))))).length = x232.length from List.length_set]; exact HS321
      refine ⟨(Sg.g2 (Sx.of [s320, [(b1, .cells #[.slice A233 (x232.set (w64 ((x232.length : Int) - 1)).toNat (Go.bits .or .u8 (rd x232 (w64 ((x232.length : Int) - 1))) (u8 ((u8 (Go.bits .and .i64 (shr v9 (min (n231).toNat 64)) 1)) * 2 ^ (min (w64 (7 - (Int.tmod x237 8))).toNat 8))))).length c234, .int .i64 x237] 80 (0, 0))]] (FM.le.refl _) HS323) (fun hl_ => Bool.noConfusion (show true = false from hl_)) (fun hl_ => Bool.noConfusion (show true = false from hl_))), ?_⟩
      refine gateRwS 30 (A := A233) (m := x232.length) (n := (x232.set (w64 ((x232.length : Int) - 1)).toNat (Go.bits .or .u8 (rd x232 (w64 ((x232.length : Int) - 1))) (u8 ((u8 (Go.bits .and .i64 (shr v9 (min (n231).toNat 64)) 1)) * 2 ^ (min (w64 (7 - (Int.tmod x237 8))).toNat 8))))).length) (c := c234) (by kernel_rfl) (List.length_set).symm ?_
      refine gateRwS 34 (A := A233) (m := x232.length) (n := (x232.set (w64 ((x232.length : Int) - 1)).toNat (Go.bits .or .u8 (rd x232 (w64 ((x232.length : Int) - 1))) (u8 ((u8 (Go.bits .and .i64 (shr v9 (min (n231).toNat 64)) 1)) * 2 ^ (min (w64 (7 - (Int.tmod x237 8))).toNat 8))))).length) (c := c234) (by kernel_rfl) (List.length_set).symm ?_
      refine doneG (by kernel_rfl) ?_ _
      refine hK303 _ _ ?_
      refine wp_region_lit ?_
      refine seqL3 (by kernel_rfl) ?_
      refine seqK rfl (does_run (run_load rfl Tryd.underlying3 rfl (by kernel_rfl : _ = Value.pointer (some ⟨b1, 1, none⟩)) (HS323.u1.cell 1)) ?_)
      have HS324 := HS323.u1
      refine seqL3 (by kernel_rfl) ?_
      refine seqK rfl (does_store (n := 1) (vs := [.int .i64 (w64 (x237 + 1))]) (cs' := #[.slice A233 (x232.set (w64 ((x232.length : Int) - 1)).toNat (Go.bits .or .u8 (rd x232 (w64 ((x232.length : Int) - 1))) (u8 ((u8 (Go.bits .and .i64 (shr v9 (min (n231).toNat 64)) 1)) * 2 ^ (min (w64 (7 - (Int.tmod x237 8))).toNat 8))))).length c234, .int .i64 (w64 (x237 + 1))]) rfl (by kernel_rfl) (by kernel_rfl : _ = Value.pointer (some ⟨b1, 1, none⟩)) (by kernel_rfl : _ = Value.int .i64 (w64 (x237 + 1))) rfl rfl (by intro u_ hu_; simp only [List.mem_cons, List.not_mem_nil, or_false] at hu_; subst hu_; rfl) HS324 (Nat.le_of_ble_eq_true rfl) (by kernel_rfl) ?_)
      intro W325 HS326
      refine wpList_nil ?_
      refine hn248 _ _ ?_
      refine hK245 _ _ ?_
      refine wp_region_lit ?_
      refine seqS3 (a' := ⟨#[.pointer (some ⟨b1, 0, none⟩), iV v9, iV (w64 (n231 - 1)), uV, uV, uV, iV n10, iV (w64 (n10 - 1)), iV n231, .bool true, iV n231, iV (w64 (n231 - 1)), .pointer (some ⟨b1, 0, none⟩), .pointer (some ⟨b1, 0, none⟩), .pointer (some ⟨b1, 1, none⟩), iV x237, iV (Int.tmod x237 8), .bool false, (j230 10), (j230 11), (j230 12), (j230 13), (j230 14), (j230 15), (j230 16), (j230 17), (j230 18), .pointer (some ⟨b1, 0, none⟩), .pointer (some ⟨b1, 0, none⟩), .pointer (some ⟨b1, 0, none⟩), .slice A233 (x232.set (w64 ((x232.length : Int) - 1)).toNat (Go.bits .or .u8 (rd x232 (w64 ((x232.length : Int) - 1))) (u8 ((u8 (Go.bits .and .i64 (shr v9 (min (n231).toNat 64)) 1)) * 2 ^ (min (w64 (7 - (Int.tmod x237 8))).toNat 8))))).length c234, .pointer (some ⟨b1, 0, none⟩), .pointer (some ⟨b1, 0, none⟩), .pointer (some ⟨b1, 0, none⟩), .slice A233 (x232.set (w64 ((x232.length : Int) - 1)).toNat (Go.bits .or .u8 (rd x232 (w64 ((x232.length : Int) - 1))) (u8 ((u8 (Go.bits .and .i64 (shr v9 (min (n231).toNat 64)) 1)) * 2 ^ (min (w64 (7 - (Int.tmod x237 8))).toNat 8))))).length c234, iV (x232.length : Int), iV (w64 ((x232.length : Int) - 1)), .pointer (some ⟨b313, of314 + (w64 ((x232.length : Int) - 1) : Int).toNat * 1, none⟩), .int .u8 (rd x232 (w64 ((x232.length : Int) - 1))), iV v9, iV n231, iV (shr v9 (min (n231).toNat 64)), iV (Go.bits .and .i64 (shr v9 (min (n231).toNat 64)) 1), .int .u8 (u8 (Go.bits .and .i64 (shr v9 (min (n231).toNat 64)) 1)), .pointer (some ⟨b1, 0, none⟩), .pointer (some ⟨b1, 0, none⟩), .pointer (some ⟨b1, 1, none⟩), iV x237, iV (Int.tmod x237 8), iV (w64 (7 - (Int.tmod x237 8))), .int .u8 (u8 ((u8 (Go.bits .and .i64 (shr v9 (min (n231).toNat 64)) 1)) * 2 ^ (min (w64 (7 - (Int.tmod x237 8))).toNat 8))), .int .u8 (Go.bits .or .u8 (rd x232 (w64 ((x232.length : Int) - 1))) (u8 ((u8 (Go.bits .and .i64 (shr v9 (min (n231).toNat 64)) 1)) * 2 ^ (min (w64 (7 - (Int.tmod x237 8))).toNat 8)))), .pointer (some ⟨b313, of314 + (w64 ((x232.length : Int) - 1) : Int).toNat * 1, none⟩), .pointer (some ⟨b1, 0, none⟩), .pointer (some ⟨b1, 0, none⟩), .pointer (some ⟨b1, 1, none⟩), iV x237, iV (w64 (x237 + 1)), .pointer (some ⟨b1, 0, none⟩), .pointer (some ⟨b1, 1, none⟩)], []⟩) (by kernel_rfl) ?_
      refine wpList_nil ?_
      refine hK224 n225 _ _ (Nat.lt_succ_self _) ?_
      exact ⟨f226, A233, c234, s320, (w64 (n231 - 1)), (x232.set (w64 ((x232.length : Int) - 1)).toNat (Go.bits .or .u8 (rd x232 (w64 ((x232.length : Int) - 1))) (u8 ((u8 (Go.bits .and .i64 (shr v9 (min (n231).toNat 64)) 1)) * 2 ^ (min (w64 (7 - (Int.tmod x237 8))).toNat 8))))), (w64 (x237 + 1)), (fun i_ => [Value.int .i64 n231, Value.bool true, Value.int .i64 n231, Value.int .i64 (w64 (n231 - 1)), Value.pointer (some ⟨b1, 0, none⟩), Value.pointer (some ⟨b1, 0, none⟩), Value.pointer (some ⟨b1, 1, none⟩), Value.int .i64 x237, Value.int .i64 (Int.tmod x237 8), Value.bool false, (j230 10), (j230 11), (j230 12), (j230 13), (j230 14), (j230 15), (j230 16), (j230 17), (j230 18), Value.pointer (some ⟨b1, 0, none⟩), Value.pointer (some ⟨b1, 0, none⟩), Value.pointer (some ⟨b1, 0, none⟩), Value.slice A233 (x232.set (w64 ((x232.length : Int) - 1)).toNat (Go.bits .or .u8 (rd x232 (w64 ((x232.length : Int) - 1))) (u8 ((u8 (Go.bits .and .i64 (shr v9 (min (n231).toNat 64)) 1)) * 2 ^ (min (w64 (7 - (Int.tmod x237 8))).toNat 8))))).length c234, Value.pointer (some ⟨b1, 0, none⟩), Value.pointer (some ⟨b1, 0, none⟩), Value.pointer (some ⟨b1, 0, none⟩), Value.slice A233 (x232.set (w64 ((x232.length : Int) - 1)).toNat (Go.bits .or .u8 (rd x232 (w64 ((x232.length : Int) - 1))) (u8 ((u8 (Go.bits .and .i64 (shr v9 (min (n231).toNat 64)) 1)) * 2 ^ (min (w64 (7 - (Int.tmod x237 8))).toNat 8))))).length c234, Value.int .i64 (x232.length : Int), Value.int .i64 (w64 ((x232.length : Int) - 1)), Value.pointer (some ⟨b313, of314 + (w64 ((x232.length : Int) - 1) : Int).toNat * 1, none⟩), Value.int .u8 (rd x232 (w64 ((x232.length : Int) - 1))), Value.int .i64 v9, Value.int .i64 n231, Value.int .i64 (shr v9 (min (n231).toNat 64)), Value.int .i64 (Go.bits .and .i64 (shr v9 (min (n231).toNat 64)) 1), Value.int .u8 (u8 (Go.bits .and .i64 (shr v9 (min (n231).toNat 64)) 1)), Value.pointer (some ⟨b1, 0, none⟩), Value.pointer (some ⟨b1, 0, none⟩), Value.pointer (some ⟨b1, 1, none⟩), Value.int .i64 x237, Value.int .i64 (Int.tmod x237 8), Value.int .i64 (w64 (7 - (Int.tmod x237 8))), Value.int .u8 (u8 ((u8 (Go.bits .and .i64 (shr v9 (min (n231).toNat 64)) 1)) * 2 ^ (min (w64 (7 - (Int.tmod x237 8))).toNat 8))), Value.int .u8 (Go.bits .or .u8 (rd x232 (w64 ((x232.length : Int) - 1))) (u8 ((u8 (Go.bits .and .i64 (shr v9 (min (n231).toNat 64)) 1)) * 2 ^ (min (w64 (7 - (Int.tmod x237 8))).toNat 8)))), Value.pointer (some ⟨b313, of314 + (w64 ((x232.length : Int) - 1) : Int).toNat * 1, none⟩), Value.pointer (some ⟨b1, 0, none⟩), Value.pointer (some ⟨b1, 0, none⟩), Value.pointer (some ⟨b1, 1, none⟩), Value.int .i64 x237, Value.int .i64 (w64 (x237 + 1)), Value.pointer (some ⟨b1, 0, none⟩), Value.pointer (some ⟨b1, 1, none⟩)].getD i_ undef), L227, HS326, HO322, h, (by kernel_rfl)⟩
  · have c243 : ¬ (n231 ≥ 0) := c243
    refine wpRwI 9 (x := (decide (n231 ≥ 0))) (v := false) (by kernel_rfl) (decide_eq_false c243) ?_
    refine condF (by kernel_rfl) ?_
    refine wp_exit ?_
    refine hx14 _ _ ?_
    exact J339 f226 A233 c234 s235 x232 x237 (fun i_ => [Value.int .i64 n231, Value.int .i64 n231, Value.bool false, (j230 2), (j230 3), (j230 4), (j230 5), (j230 6), (j230 7), (j230 8), (j230 9), (j230 10), (j230 11), (j230 12), (j230 13), (j230 14), (j230 15), (j230 16), (j230 17), (j230 18), (j230 19), (j230 20), (j230 21), (j230 22), (j230 23), (j230 24), (j230 25), (j230 26), (j230 27), (j230 28), (j230 29), (j230 30), (j230 31), (j230 32), (j230 33), (j230 34), (j230 35), (j230 36), (j230 37), (j230 38), (j230 39), (j230 40), (j230 41), (j230 42), (j230 43), (j230 44), (j230 45), (j230 46), (j230 47), (j230 48), (j230 49), (j230 50), (j230 51)].getD i_ undef) W228 _ L227 h HS229 HO236 (by kernel_rfl)

set_option maxRecDepth 100000 in
set_option maxHeartbeats 4000000 in
theorem squeeze_fold.calls (k : Nat)  (d1 : Int) {t w : World} {f : FM} {H : List Seg} (HS : St t w f (H)) (rr1 : Int) (h : squeeze_fold k d1 = some rr1) :
    Calls Tryd.prog 32 #[.int .i64 d1] w (fun e w' => ∃ (g : FM), e = .returned (Value.int .i64 rr1) ∧ FM.le f g ∧ St t w' g (H)) := by
  unfold squeeze_fold at h
  refine enter Tryd.func32 rfl (tm := #[iV d1, uV, uV, uV, uV, uV, uV, uV, uV, uV]) (by kernel_rfl) ?_
  intro B hret hnor hnp
  refine wp_seq_k (fun K2 hK3 => ?_)
  refine wp_region_lit ?_
  refine seqS1 (a' := ⟨#[iV d1, uV, iV 0, uV, uV, uV, uV, uV, uV, uV], []⟩) (by kernel_rfl) ?_
  refine wpList_nil ?_
  refine hK3 _ _ ?_
  refine wp_seq_k (fun K4 hK5 => ?_)
  refine wp_seq_k (fun K6 hK7 => ?_)
  refine wp_region_lit ?_
  refine seqS2 (a' := ⟨#[iV d1, uV, iV 0, iV d1, .bool (decide (d1 < 0)), uV, uV, uV, uV, uV], []⟩) (by kernel_rfl) ?_
  refine wpList_nil ?_
  refine hK7 _ _ ?_
  have hq_ := ite_some h; clear h; rcases hq_ with ⟨c9, h⟩ | ⟨c9, h⟩
  · have c9 : d1 < 0 := c9
    refine wpRwI 4 (x := (decide (d1 < 0))) (v := true) (by kernel_rfl) (decide_eq_true c9) ?_
    refine condT (by kernel_rfl) ?_
    refine wp_seq_k (fun K10 hK11 => ?_)
    refine wp_region_lit ?_
    refine seqS4 (a' := ⟨#[iV d1, uV, iV (w64 ((w64 ((-2) * d1)) - 1)), iV d1, .bool true, iV d1, iV (w64 ((-2) * d1)), iV (w64 ((w64 ((-2) * d1)) - 1)), uV, uV], []⟩) (by kernel_rfl) ?_
    refine wpList_nil ?_
    refine hK11 _ _ ?_
    refine wp_ret ?_
    refine hret _ _ ?_
    refine ends_still (v := Value.int .i64 (w64 ((w64 ((-2) * d1)) - 1))) (by kernel_rfl) (by kernel_rfl) ?_
    injection h with h
    subst h
    exact ⟨f, rfl, FM.le.refl _, HS⟩
  · have c9 : ¬ (d1 < 0) := c9
    refine wpRwI 4 (x := (decide (d1 < 0))) (v := false) (by kernel_rfl) (decide_eq_false c9) ?_
    refine condF (by kernel_rfl) ?_
    refine wp_skip ?_
    refine hK5 _ _ ?_
    refine wp_seq_k (fun K12 hK13 => ?_)
    refine wp_region_lit ?_
    refine seqS3 (a' := ⟨#[iV d1, uV, iV (w64 (2 * d1)), iV d1, .bool false, uV, uV, uV, iV d1, iV (w64 (2 * d1))], []⟩) (by kernel_rfl) ?_
    refine wpList_nil ?_
    refine hK13 _ _ ?_
    refine wp_ret ?_
    refine hret _ _ ?_
    refine ends_still (v := Value.int .i64 (w64 (2 * d1))) (by kernel_rfl) (by kernel_rfl) ?_
    injection h with h
    subst h
    exact ⟨f, rfl, FM.le.refl _, HS⟩

set_option maxRecDepth 100000 in
set_option maxHeartbeats 4000000 in
theorem squeeze_cost.calls (k : Nat) (A2 : Option Addr) (c3 : Nat) (group1 : List Int) (vk5 : Int) {t w : World} {f : FM} {H : List Seg} (HS : St t w f (H)) (HR4 : SlR (tInt .i64) f A2 c3 group1) (rr1 : Int) (h : squeeze_cost k group1 vk5 = some rr1) :
    Calls Tryd.prog 33 #[.slice A2 group1.length c3, .int .i64 vk5] w (fun e w' => ∃ (g : FM), e = .returned (Value.int .i64 rr1) ∧ FM.le f g ∧ St t w' g (H)) := by
  unfold squeeze_cost at h
  refine enter Tryd.func33 rfl (tm := #[.slice A2 group1.length c3, iV vk5, uV, uV, uV, uV, uV, uV, uV, uV, uV, uV, uV, uV, uV, uV, uV, uV, uV, uV, uV, uV, uV, uV, uV, uV, uV, uV]) (by kernel_rfl) ?_
  intro B hret hnor hnp
  refine wp_seq_k (fun K6 hK7 => ?_)
  refine wp_region_lit ?_
  refine seqS1 (a' := ⟨#[.slice A2 group1.length c3, iV vk5, uV, uV, iV 0, uV, uV, uV, uV, uV, uV, uV, uV, uV, uV, uV, uV, uV, uV, uV, uV, uV, uV, uV, uV, uV, uV, uV], []⟩) (by kernel_rfl) ?_
  refine wpList_nil ?_
  refine hK7 _ _ ?_
  refine wp_seq_k (fun K8 hK9 => ?_)
  refine wp_region_lit ?_
  refine seqS1 (a' := ⟨#[.slice A2 group1.length c3, iV vk5, uV, uV, iV 0, iV 0, uV, uV, uV, uV, uV, uV, uV, uV, uV, uV, uV, uV, uV, uV, uV, uV, uV, uV, uV, uV, uV, uV], []⟩) (by kernel_rfl) ?_
  refine wpList_nil ?_
  refine hK9 _ _ ?_
  refine wp_seq_k (fun K10 hK11 => ?_)
  refine wp_seq_k (fun K12 hK13 => ?_)
  refine wp_region_lit ?_
  refine seqS3 (a' := ⟨#[.slice A2 group1.length c3, iV vk5, uV, uV, iV 0, iV 0, uV, uV, .slice A2 group1.length c3, iV (group1.length : Int), iV 0, uV, uV, uV, uV, uV, uV, uV, uV, uV, uV, uV, uV, uV, uV, uV, uV, uV], []⟩) (by kernel_rfl) ?_
  refine wpList_nil ?_
  refine hK13 _ _ ?_
  refine blockK (fun B14 hx15 hn16 hr17 ho18 hp19 => ?_)
  have hq_ := bind_some h; clear h; obtain ⟨o20, hv66, h⟩ := hq_
  have J67 : ∀ (f60 : FM) (n65 : Int) (j64 : Nat → Value) (W62 : World) (a_ : Act), FM.le f f60 → some (n65) = some o20 → St t W62 f60 (H) → a_ = ⟨#[.slice A2 group1.length c3, iV vk5, uV, uV, iV 0, iV n65, uV, (j64 0), .slice A2 group1.length c3, iV (group1.length : Int), (j64 1), (j64 2), (j64 3), (j64 4), (j64 5), (j64 6), (j64 7), (j64 8), (j64 9), (j64 10), (j64 11), (j64 12), (j64 13), (j64 14), (j64 15), (j64 16), (j64 17), uV], []⟩ → K10 a_ W62 := by
    intro f60 n65 j64 W62 a_ L61 hj68 HS63  hfr_; subst hfr_
    injection hj68 with hj68; subst hj68; try dsimp only at h
    refine hK11 _ _ ?_
    refine wp_seq_k (fun K69 hK70 => ?_)
    refine wp_region_lit ?_
    refine seqS2 (a' := ⟨#[.slice A2 group1.length c3, iV vk5, uV, uV, iV n65, iV n65, uV, (j64 0), .slice A2 group1.length c3, iV (group1.length : Int), (j64 1), (j64 2), (j64 3), (j64 4), (j64 5), (j64 6), (j64 7), (j64 8), (j64 9), (j64 10), (j64 11), (j64 12), (j64 13), (j64 14), (j64 15), (j64 16), (j64 17), iV n65], []⟩) (by kernel_rfl) ?_
    refine wpList_nil ?_
    refine hK70 _ _ ?_
    refine wp_ret ?_
    refine hret _ _ ?_
    refine ends_still (v := Value.int .i64 n65) (by kernel_rfl) (by kernel_rfl) ?_
    injection h with h
    subst h
    exact ⟨f60, rfl, L61, HS63⟩
  clear h; have h := hv66; clear hv66
  refine loopK (fun n_ a_ w_ => ∃ (f24 : FM) (n29 : Int) (x30 : Int) (j28 : Nat → Value), FM.le f f24 ∧ St t w_ f24 (H) ∧ squeeze_cost.l0 k group1 vk5 n_ n29 x30 = some o20 ∧ a_ = ⟨#[.slice A2 group1.length c3, iV vk5, uV, uV, iV 0, iV n29, uV, (j28 0), .slice A2 group1.length c3, iV (group1.length : Int), iV x30, (j28 1), (j28 2), (j28 3), (j28 4), (j28 5), (j28 6), (j28 7), (j28 8), (j28 9), (j28 10), (j28 11), (j28 12), (j28 13), (j28 14), (j28 15), (j28 16), uV], []⟩) k ⟨f, 0, 0, (fun i_ => [undef, undef, undef, undef, undef, undef, undef, undef, undef, undef, undef, undef, undef, undef, undef, undef, undef].getD i_ undef), (FM.le.refl _), HS, h, (by kernel_rfl)⟩ ?_
  clear h
  rintro n23 _ W26 ⟨f24, n29, x30, j28, L25, HS27, h, rfl⟩ K21 hK22
  obtain _ | n23 := n23
  · exact nomatch h
  simp only [squeeze_cost.l0] at h
  refine wp_seq_k (fun K31 hK32 => ?_)
  refine wp_region_lit ?_
  refine seqS1 (a' := ⟨#[.slice A2 group1.length c3, iV vk5, uV, uV, iV 0, iV n29, uV, (j28 0), .slice A2 group1.length c3, iV (group1.length : Int), iV x30, .bool (decide (x30 < (group1.length : Int))), (j28 2), (j28 3), (j28 4), (j28 5), (j28 6), (j28 7), (j28 8), (j28 9), (j28 10), (j28 11), (j28 12), (j28 13), (j28 14), (j28 15), (j28 16), uV], []⟩) (by kernel_rfl) ?_
  refine wpList_nil ?_
  refine hK32 _ _ ?_
  refine wp_seq_k (fun K33 hK34 => ?_)
  have hq_ := ite_some h; clear h; rcases hq_ with ⟨c36, h⟩ | ⟨c36, h⟩
  · have c36 : x30 < (group1.length : Int) := c36
    refine wpRwI 11 (x := (decide (x30 < (group1.length : Int)))) (v := true) (by kernel_rfl) (decide_eq_true c36) ?_
    refine condT (by kernel_rfl) ?_
    refine wp_skip ?_
    refine hK34 _ _ ?_
    refine wp_seq_k (fun K37 hK38 => ?_)
    refine blockK (fun B39 hx40 hn41 hr42 ho43 hp44 => ?_)
    refine wp_seq_k (fun K46 hK47 => ?_)
    refine wp_region_lit ?_
    have hq_ := guard_some h; clear h; obtain ⟨c48, h⟩ := hq_
    have c48 : 0 ≤ x30 := c48
    obtain ⟨b52, of53, cs49, hA54, hr50, hc51⟩ := (HR4.mono L25).at (i := x30) c48 c36
    obtain rfl := hr50
    refine seqK rfl (does_run (run_indexE hA54 (sz := 1) rfl Tryd.underlying27 (by kernel_rfl) (by kernel_rfl : _ = Value.slice A2 group1.length c3) (by kernel_rfl : _ = Value.int .i64 x30) c48 c36 W26) ?_)
    refine seqK rfl (does_run (run_load rfl Tryd.underlying3 rfl (by kernel_rfl : _ = Value.pointer (some ⟨b52, of53 + (x30 : Int).toNat * 1, none⟩)) ((hc51 (FM.le.refl _) HS27) 0 (by decide))) ?_)
    refine seqS1 (a' := ⟨#[.slice A2 group1.length c3, iV vk5, uV, uV, iV 0, iV n29, uV, iV (rd group1 x30), .slice A2 group1.length c3, iV (group1.length : Int), iV x30, .bool true, .pointer (some ⟨b52, of53 + (x30 : Int).toNat * 1, none⟩), iV (rd group1 x30), (j28 4), (j28 5), (j28 6), (j28 7), (j28 8), (j28 9), (j28 10), (j28 11), (j28 12), (j28 13), (j28 14), (j28 15), (j28 16), uV], []⟩) (by kernel_rfl) ?_
    refine wpList_nil ?_
    refine hK47 _ _ ?_
    refine wp_seq_k (fun K55 hK56 => ?_)
    refine wp_region_lit ?_
    refine seqS2 (a' := ⟨#[.slice A2 group1.length c3, iV vk5, uV, uV, iV 0, iV n29, uV, iV (rd group1 x30), .slice A2 group1.length c3, iV (group1.length : Int), iV x30, .bool true, .pointer (some ⟨b52, of53 + (x30 : Int).toNat * 1, none⟩), iV (rd group1 x30), iV vk5, .bool (vk5 == 15), (j28 6), (j28 7), (j28 8), (j28 9), (j28 10), (j28 11), (j28 12), (j28 13), (j28 14), (j28 15), (j28 16), uV], []⟩) (by kernel_rfl) ?_
    refine wpList_nil ?_
    refine hK56 _ _ ?_
    have hq_ := ite_some h; clear h; rcases hq_ with ⟨c58, h⟩ | ⟨c58, h⟩
    · have c58 : vk5 = 15 := c58
      refine wpRwI 15 (x := (vk5 == 15)) (v := true) (by kernel_rfl) (beq_iff_eq.mpr c58) ?_
      refine condT (by kernel_rfl) ?_
      refine wp_region_lit ?_
      refine seqS3 (a' := ⟨#[.slice A2 group1.length c3, iV vk5, uV, uV, iV 0, iV (w64 (n29 + 17)), uV, iV (rd group1 x30), .slice A2 group1.length c3, iV (group1.length : Int), iV x30, .bool true, .pointer (some ⟨b52, of53 + (x30 : Int).toNat * 1, none⟩), iV (rd group1 x30), iV vk5, .bool true, iV n29, iV (w64 (n29 + 17)), (j28 8), (j28 9), (j28 10), (j28 11), (j28 12), (j28 13), (j28 14), (j28 15), (j28 16), uV], []⟩) (by kernel_rfl) ?_
      refine wpList_nil ?_
      refine hn41 _ _ ?_
      refine hK38 _ _ ?_
      refine wp_region_lit ?_
      refine seqS2 (a' := ⟨#[.slice A2 group1.length c3, iV vk5, uV, uV, iV 0, iV (w64 (n29 + 17)), uV, iV (rd group1 x30), .slice A2 group1.length c3, iV (group1.length : Int), iV (w64 (x30 + 1)), .bool true, .pointer (some ⟨b52, of53 + (x30 : Int).toNat * 1, none⟩), iV (rd group1 x30), iV vk5, .bool true, iV n29, iV (w64 (n29 + 17)), (j28 8), (j28 9), (j28 10), (j28 11), (j28 12), (j28 13), (j28 14), (j28 15), iV (w64 (x30 + 1)), uV], []⟩) (by kernel_rfl) ?_
      refine wpList_nil ?_
      refine hK22 n23 _ _ (Nat.lt_succ_self _) ?_
      exact ⟨f24, (w64 (n29 + 17)), (w64 (x30 + 1)), (fun i_ => [Value.int .i64 (rd group1 x30), Value.bool true, Value.pointer (some ⟨b52, of53 + (x30 : Int).toNat * 1, none⟩), Value.int .i64 (rd group1 x30), Value.int .i64 vk5, Value.bool true, Value.int .i64 n29, Value.int .i64 (w64 (n29 + 17)), (j28 8), (j28 9), (j28 10), (j28 11), (j28 12), (j28 13), (j28 14), (j28 15), Value.int .i64 (w64 (x30 + 1))].getD i_ undef), L25, HS27, h, (by kernel_rfl)⟩
    · have c58 : ¬ (vk5 = 15) := c58
      refine wpRwI 15 (x := (vk5 == 15)) (v := false) (by kernel_rfl) (beq_eq_false_iff_ne.mpr c58) ?_
      refine condF (by kernel_rfl) ?_
      refine wp_region_lit ?_
      have hq_ := guard_some h; clear h; obtain ⟨c59, h⟩ := hq_
      have c59 : ¬ (vk5 < 0) := c59
      refine seqL3 (by kernel_rfl) ?_
      refine seqK rfl (does_run (run_shr rfl (by kernel_rfl : _ = Value.int .i64 (rd group1 x30)) (by kernel_rfl : _ = Value.int .i64 vk5) c59 W26) ?_)
      refine seqS5 (a' := ⟨#[.slice A2 group1.length c3, iV vk5, uV, uV, iV 0, iV (w64 (n29 + (w64 ((w64 ((shr (rd group1 x30) (min (vk5).toNat 64)) + 1)) + vk5)))), uV, iV (rd group1 x30), .slice A2 group1.length c3, iV (group1.length : Int), iV x30, .bool true, .pointer (some ⟨b52, of53 + (x30 : Int).toNat * 1, none⟩), iV (rd group1 x30), iV vk5, .bool false, (j28 6), (j28 7), iV n29, iV (rd group1 x30), iV vk5, iV (shr (rd group1 x30) (min (vk5).toNat 64)), iV (w64 ((shr (rd group1 x30) (min (vk5).toNat 64)) + 1)), iV vk5, iV (w64 ((w64 ((shr (rd group1 x30) (min (vk5).toNat 64)) + 1)) + vk5)), iV (w64 (n29 + (w64 ((w64 ((shr (rd group1 x30) (min (vk5).toNat 64)) + 1)) + vk5)))), (j28 16), uV], []⟩) (by kernel_rfl) ?_
      refine wpList_nil ?_
      refine hn41 _ _ ?_
      refine hK38 _ _ ?_
      refine wp_region_lit ?_
      refine seqS2 (a' := ⟨#[.slice A2 group1.length c3, iV vk5, uV, uV, iV 0, iV (w64 (n29 + (w64 ((w64 ((shr (rd group1 x30) (min (vk5).toNat 64)) + 1)) + vk5)))), uV, iV (rd group1 x30), .slice A2 group1.length c3, iV (group1.length : Int), iV (w64 (x30 + 1)), .bool true, .pointer (some ⟨b52, of53 + (x30 : Int).toNat * 1, none⟩), iV (rd group1 x30), iV vk5, .bool false, (j28 6), (j28 7), iV n29, iV (rd group1 x30), iV vk5, iV (shr (rd group1 x30) (min (vk5).toNat 64)), iV (w64 ((shr (rd group1 x30) (min (vk5).toNat 64)) + 1)), iV vk5, iV (w64 ((w64 ((shr (rd group1 x30) (min (vk5).toNat 64)) + 1)) + vk5)), iV (w64 (n29 + (w64 ((w64 ((shr (rd group1 x30) (min (vk5).toNat 64)) + 1)) + vk5)))), iV (w64 (x30 + 1)), uV], []⟩) (by kernel_rfl) ?_
      refine wpList_nil ?_
      refine hK22 n23 _ _ (Nat.lt_succ_self _) ?_
      exact ⟨f24, (w64 (n29 + (w64 ((w64 ((shr (rd group1 x30) (min (vk5).toNat 64)) + 1)) + vk5)))), (w64 (x30 + 1)), (fun i_ => [Value.int .i64 (rd group1 x30), Value.bool true, Value.pointer (some ⟨b52, of53 + (x30 : Int).toNat * 1, none⟩), Value.int .i64 (rd group1 x30), Value.int .i64 vk5, Value.bool false, (j28 6), (j28 7), Value.int .i64 n29, Value.int .i64 (rd group1 x30), Value.int .i64 vk5, Value.int .i64 (shr (rd group1 x30) (min (vk5).toNat 64)), Value.int .i64 (w64 ((shr (rd group1 x30) (min (vk5).toNat 64)) + 1)), Value.int .i64 vk5, Value.int .i64 (w64 ((w64 ((shr (rd group1 x30) (min (vk5).toNat 64)) + 1)) + vk5)), Value.int .i64 (w64 (n29 + (w64 ((w64 ((shr (rd group1 x30) (min (vk5).toNat 64)) + 1)) + vk5)))), Value.int .i64 (w64 (x30 + 1))].getD i_ undef), L25, HS27, h, (by kernel_rfl)⟩
  · have c36 : ¬ (x30 < (group1.length : Int)) := c36
    refine wpRwI 11 (x := (decide (x30 < (group1.length : Int)))) (v := false) (by kernel_rfl) (decide_eq_false c36) ?_
    refine condF (by kernel_rfl) ?_
    refine wp_exit ?_
    refine hx15 _ _ ?_
    exact J67 f24 n29 (fun i_ => [(j28 0), Value.int .i64 x30, Value.bool false, (j28 2), (j28 3), (j28 4), (j28 5), (j28 6), (j28 7), (j28 8), (j28 9), (j28 10), (j28 11), (j28 12), (j28 13), (j28 14), (j28 15), (j28 16)].getD i_ undef) W26 _ L25 h HS27 (by kernel_rfl)

end Go.Sp.E3
