import Derived.Test.YtdogeeomknanpaaProg
import Derived.Test.YtdogeeomknanpaaSpCopy
import Derived.Test.YtdogeeomknanpaaFT8
import Derived.Test.YtdogeeomknanpaaSpSort
import Derived.Test.YtdogeeomknanpaaShelf
namespace Go.Sp.T8
open Go Go.Sp Go.Proofs
set_option linter.unusedVariables false
attribute [local irreducible] wpList AnyL Code.wp Calls Does
def ty_Stream : Ty S_Stream where
  sz := 2
  rep := fun f cs x => ∃ (A0 : Option Addr) (c0 : Nat), cs = [.slice A0 x.L.length c0, .int .i64 x.vat] ∧ SlR (tInt .i64) f A0 c0 x.L
  pos := by decide
  len := by rintro f cs x ⟨A0, c0, rfl, h0⟩; rfl
  mono := by rintro f g cs x hl ⟨A0, c0, rfl, h0⟩; exact ⟨A0, c0, rfl, h0.mono hl⟩
  one := by
    rintro f cs x ⟨A0, c0, rfl, h0⟩ v hv
    simp only [List.mem_cons, List.not_mem_nil, or_false] at hv
    rcases hv with rfl | rfl <;> rfl
def ty_Bound : Ty S_Bound where
  sz := 3
  rep := fun f cs x => cs = [.int .i64 x.Lo, .int .i64 x.Hi, .bool x.Unknown]
  pos := by decide
  len := by rintro f cs x rfl; rfl
  mono := by rintro f g cs x hl rfl; exact rfl
  one := by
    rintro f cs x rfl v hv
    simp only [List.mem_cons, List.not_mem_nil, or_false] at hv
    rcases hv with rfl | rfl | rfl <;> rfl
def ty_Cells : Ty S_Cells where
  sz := 3
  rep := fun f cs x => ∃ (A2 : Option Addr) (c2 : Nat), cs = [.int .i64 x.W, .int .i64 x.H, .slice A2 x.At.length c2] ∧ SlR ty_Bound f A2 c2 x.At
  pos := by decide
  len := by rintro f cs x ⟨A2, c2, rfl, h2⟩; rfl
  mono := by rintro f g cs x hl ⟨A2, c2, rfl, h2⟩; exact ⟨A2, c2, rfl, h2.mono hl⟩
  one := by
    rintro f cs x ⟨A2, c2, rfl, h2⟩ v hv
    simp only [List.mem_cons, List.not_mem_nil, or_false] at hv
    rcases hv with rfl | rfl | rfl <;> rfl
theorem inf44 : Inf Try.prog 44 3 24 (.agg #[.int .i64 0, .int .i64 0, .bool false]) := .mk' (by kernel_rfl) rfl
theorem inf3 : Inf Try.prog 3 1 8 (.int .i64 0) := .mk' (by kernel_rfl) rfl

set_option maxRecDepth 100000 in
set_option maxHeartbeats 4000000 in
theorem spymake_Below.calls (k : Nat)  (x1 : Int) (n2 : Int) {t w : World} {f : FM} {H : List Seg} (HS : St t w f (H)) (r1 : Int) (h : spymake_Below k x1 n2 = some r1) :
    Calls Try.prog 10 #[.int .i64 x1, .int .i64 n2] w (fun e w' => ∃ (g : FM), e = .returned (Value.int .i64 r1) ∧ FM.le f g ∧ St t w' g (H)) := by
  unfold spymake_Below at h
  refine enter Try.func10 rfl (tm := #[iV x1, iV n2, uV, uV, uV, uV, uV, uV, uV, uV, uV, uV, uV, uV, uV, uV]) (by kernel_rfl) ?_
  intro B hret hnor hnp
  refine wp_seq_k (fun K3 hK4 => ?_)
  refine wp_region_lit ?_
  refine seqS1 (a' := ⟨#[iV x1, iV n2, uV, uV, iV 0, uV, uV, uV, uV, uV, uV, uV, uV, uV, uV, uV], []⟩) (by kernel_rfl) ?_
  refine wpList_nil ?_
  refine hK4 _ _ ?_
  refine wp_seq_k (fun K5 hK6 => ?_)
  refine wp_seq_k (fun K7 hK8 => ?_)
  refine wp_region_lit ?_
  refine seqS2 (a' := ⟨#[iV x1, iV n2, uV, uV, iV 0, iV n2, .bool (decide (n2 < 1)), uV, uV, uV, uV, uV, uV, uV, uV, uV], []⟩) (by kernel_rfl) ?_
  refine wpList_nil ?_
  refine hK8 _ _ ?_
  have hq_ := ite_some h; clear h; rcases hq_ with ⟨c10, h⟩ | ⟨c10, h⟩
  · have c10 : n2 < 1 := c10
    refine wpRwI 6 (x := (decide (n2 < 1))) (v := true) (by kernel_rfl) (decide_eq_true c10) ?_
    refine condT (by kernel_rfl) ?_
    refine wp_seq_k (fun K11 hK12 => ?_)
    refine wp_region_lit ?_
    refine seqS1 (a' := ⟨#[iV x1, iV n2, uV, uV, iV 0, iV n2, .bool true, uV, uV, uV, uV, uV, uV, uV, uV, uV], []⟩) (by kernel_rfl) ?_
    refine wpList_nil ?_
    refine hK12 _ _ ?_
    refine wp_ret ?_
    refine hret _ _ ?_
    refine ends_still (v := Value.int .i64 0) (by kernel_rfl) (by kernel_rfl) ?_
    injection h with h
    subst h
    exact ⟨f, rfl, FM.le.refl _, HS⟩
  · have c10 : ¬ (n2 < 1) := c10
    refine wpRwI 6 (x := (decide (n2 < 1))) (v := false) (by kernel_rfl) (decide_eq_false c10) ?_
    refine condF (by kernel_rfl) ?_
    refine wp_skip ?_
    refine hK6 _ _ ?_
    refine wp_seq_k (fun K13 hK14 => ?_)
    refine wp_region_lit ?_
    have hq_ := guard_some h; clear h; obtain ⟨c15, h⟩ := hq_
    have c15 : ¬ (n2 = 0) := c15
    refine seqL2 (by kernel_rfl) ?_
    refine seqK rfl (does_run (run_rem rfl (by kernel_rfl : _ = Value.int .i64 x1) (by kernel_rfl : _ = Value.int .i64 n2) c15 w) ?_)
    refine seqS1 (a' := ⟨#[iV (Int.tmod x1 n2), iV n2, uV, uV, iV 0, iV n2, .bool false, iV x1, iV n2, iV (Int.tmod x1 n2), uV, uV, uV, uV, uV, uV], []⟩) (by kernel_rfl) ?_
    refine wpList_nil ?_
    refine hK14 _ _ ?_
    refine wp_seq_k (fun K16 hK17 => ?_)
    refine wp_seq_k (fun K18 hK19 => ?_)
    refine wp_region_lit ?_
    refine seqS2 (a' := ⟨#[iV (Int.tmod x1 n2), iV n2, uV, uV, iV 0, iV n2, .bool false, iV x1, iV n2, iV (Int.tmod x1 n2), iV (Int.tmod x1 n2), .bool (decide ((Int.tmod x1 n2) < 0)), uV, uV, uV, uV], []⟩) (by kernel_rfl) ?_
    refine wpList_nil ?_
    refine hK19 _ _ ?_
    have hq_ := ite_some h; clear h; rcases hq_ with ⟨c21, h⟩ | ⟨c21, h⟩
    · have c21 : (Int.tmod x1 n2) < 0 := c21
      refine wpRwI 11 (x := (decide ((Int.tmod x1 n2) < 0))) (v := true) (by kernel_rfl) (decide_eq_true c21) ?_
      refine condT (by kernel_rfl) ?_
      refine wp_region_lit ?_
      refine seqS4 (a' := ⟨#[iV (w64 ((Int.tmod x1 n2) + n2)), iV n2, uV, uV, iV 0, iV n2, .bool false, iV x1, iV n2, iV (Int.tmod x1 n2), iV (Int.tmod x1 n2), .bool true, iV (Int.tmod x1 n2), iV n2, iV (w64 ((Int.tmod x1 n2) + n2)), uV], []⟩) (by kernel_rfl) ?_
      refine wpList_nil ?_
      refine hK17 _ _ ?_
      refine wp_seq_k (fun K22 hK23 => ?_)
      refine wp_region_lit ?_
      refine seqS2 (a' := ⟨#[iV (w64 ((Int.tmod x1 n2) + n2)), iV n2, uV, uV, iV (w64 ((Int.tmod x1 n2) + n2)), iV n2, .bool false, iV x1, iV n2, iV (Int.tmod x1 n2), iV (Int.tmod x1 n2), .bool true, iV (Int.tmod x1 n2), iV n2, iV (w64 ((Int.tmod x1 n2) + n2)), iV (w64 ((Int.tmod x1 n2) + n2))], []⟩) (by kernel_rfl) ?_
      refine wpList_nil ?_
      refine hK23 _ _ ?_
      refine wp_ret ?_
      refine hret _ _ ?_
      refine ends_still (v := Value.int .i64 (w64 ((Int.tmod x1 n2) + n2))) (by kernel_rfl) (by kernel_rfl) ?_
      injection h with h
      subst h
      exact ⟨f, rfl, FM.le.refl _, HS⟩
    · have c21 : ¬ ((Int.tmod x1 n2) < 0) := c21
      refine wpRwI 11 (x := (decide ((Int.tmod x1 n2) < 0))) (v := false) (by kernel_rfl) (decide_eq_false c21) ?_
      refine condF (by kernel_rfl) ?_
      refine wp_skip ?_
      refine hK17 _ _ ?_
      refine wp_seq_k (fun K24 hK25 => ?_)
      refine wp_region_lit ?_
      refine seqS2 (a' := ⟨#[iV (Int.tmod x1 n2), iV n2, uV, uV, iV (Int.tmod x1 n2), iV n2, .bool false, iV x1, iV n2, iV (Int.tmod x1 n2), iV (Int.tmod x1 n2), .bool false, uV, uV, uV, iV (Int.tmod x1 n2)], []⟩) (by kernel_rfl) ?_
      refine wpList_nil ?_
      refine hK25 _ _ ?_
      refine wp_ret ?_
      refine hret _ _ ?_
      refine ends_still (v := Value.int .i64 (Int.tmod x1 n2)) (by kernel_rfl) (by kernel_rfl) ?_
      injection h with h
      subst h
      exact ⟨f, rfl, FM.le.refl _, HS⟩

set_option maxRecDepth 100000 in
set_option maxHeartbeats 4000000 in
theorem spymake_Stream_Next.calls (k : Nat) (b1 : Nat) (A4 : Option Addr) (c5 : Nat) (s3 : S_Stream) (n7 : Int) {t w : World} {f : FM} {H : List Seg} (HS : St t w f ([(b1, .cells #[.slice A4 s3.L.length c5, .int .i64 s3.vat] 25 (0, 0))] :: H)) (HR6 : SlR (tInt .i64) f A4 c5 s3.L) (r1 : Int) (r2 : Int) (h : spymake_Stream_Next k s3 n7 = some (r1, r2)) :
    Calls Try.prog 12 #[.pointer (some ⟨b1, 0, none⟩), .int .i64 n7] w (fun e w' => ∃ (g : FM), e = .returned (Value.int .i64 r1) ∧ FM.le f g ∧ St t w' g ([(b1, .cells #[.slice A4 s3.L.length c5, .int .i64 r2] 25 (0, 0))] :: H)) := by
  unfold spymake_Stream_Next at h
  refine enter Try.func12 rfl (tm := #[.pointer (some ⟨b1, 0, none⟩), iV n7, uV, uV, uV, uV, uV, uV, uV, uV, uV, uV, uV, uV, uV, uV, uV, uV, uV, uV, uV, uV, uV, uV, uV, uV, uV, uV, uV, uV, uV, uV, uV, uV, uV, uV, uV, uV, uV, uV, uV, uV, uV, uV, uV, uV, uV, uV, uV, uV, uV, uV, uV, uV, uV, uV, uV, uV, uV, uV, uV, uV, uV, uV]) (by kernel_rfl) ?_
  intro B hret hnor hnp
  refine wp_seq_k (fun K8 hK9 => ?_)
  refine wp_region_lit ?_
  refine seqS1 (a' := ⟨#[.pointer (some ⟨b1, 0, none⟩), iV n7, uV, uV, iV 0, uV, uV, uV, uV, uV, uV, uV, uV, uV, uV, uV, uV, uV, uV, uV, uV, uV, uV, uV, uV, uV, uV, uV, uV, uV, uV, uV, uV, uV, uV, uV, uV, uV, uV, uV, uV, uV, uV, uV, uV, uV, uV, uV, uV, uV, uV, uV, uV, uV, uV, uV, uV, uV, uV, uV, uV, uV, uV, uV], []⟩) (by kernel_rfl) ?_
  refine wpList_nil ?_
  refine hK9 _ _ ?_
  refine wp_seq_k (fun K10 hK11 => ?_)
  refine wp_region_lit ?_
  refine seqL3 (by kernel_rfl) ?_
  refine seqK rfl (does_run (run_load rfl Try.underlying3 rfl (by kernel_rfl : _ = Value.pointer (some ⟨b1, 1, none⟩)) (HS.cell 1)) ?_)
  refine seqL3 (by kernel_rfl) ?_
  refine seqK rfl (does_store (n := 1) (vs := [.int .i64 (w64 (s3.vat + 1))]) (cs' := #[.slice A4 s3.L.length c5, .int .i64 (w64 (s3.vat + 1))]) rfl (by kernel_rfl) (by kernel_rfl : _ = Value.pointer (some ⟨b1, 1, none⟩)) (by kernel_rfl : _ = Value.int .i64 (w64 (s3.vat + 1))) rfl rfl (by intro u_ hu_; simp only [List.mem_cons, List.not_mem_nil, or_false] at hu_; subst hu_; rfl) HS (Nat.le_of_ble_eq_true rfl) (by kernel_rfl) ?_)
  intro W12 HS13
  refine wpList_nil ?_
  refine hK11 _ _ ?_
  refine wp_seq_k (fun K14 hK15 => ?_)
  refine wp_seq_k (fun K16 hK17 => ?_)
  refine wp_region_lit ?_
  refine seqL3 (by kernel_rfl) ?_
  refine seqK rfl (does_run (run_load rfl Try.underlying22 rfl (by kernel_rfl : _ = Value.pointer (some ⟨b1, 0, none⟩)) (HS13.cell 0)) ?_)
  refine seqS2 (a' := ⟨#[.pointer (some ⟨b1, 0, none⟩), iV n7, uV, uV, iV 0, uV, uV, .pointer (some ⟨b1, 0, none⟩), .pointer (some ⟨b1, 0, none⟩), .pointer (some ⟨b1, 1, none⟩), iV s3.vat, iV (w64 (s3.vat + 1)), .pointer (some ⟨b1, 0, none⟩), .pointer (some ⟨b1, 1, none⟩), .pointer (some ⟨b1, 0, none⟩), .pointer (some ⟨b1, 0, none⟩), .pointer (some ⟨b1, 0, none⟩), .slice A4 s3.L.length c5, iV (s3.L.length : Int), .bool ((s3.L.length : Int) == 0), uV, uV, uV, uV, uV, uV, uV, uV, uV, uV, uV, uV, uV, uV, uV, uV, uV, uV, uV, uV, uV, uV, uV, uV, uV, uV, uV, uV, uV, uV, uV, uV, uV, uV, uV, uV, uV, uV, uV, uV, uV, uV, uV, uV], []⟩) (by kernel_rfl) ?_
  refine wpList_nil ?_
  refine hK17 _ _ ?_
  have hq_ := ite_some h; clear h; rcases hq_ with ⟨c19, h⟩ | ⟨c19, h⟩
  · have c19 : (s3.L.length : Int) = 0 := c19
    refine wpRwI 19 (x := ((s3.L.length : Int) == 0)) (v := true) (by kernel_rfl) (beq_iff_eq.mpr c19) ?_
    refine condT (by kernel_rfl) ?_
    refine wp_seq_k (fun K20 hK21 => ?_)
    refine wp_region_lit ?_
    refine seqL3 (by kernel_rfl) ?_
    refine seqK rfl (does_run (run_load rfl Try.underlying3 rfl (by kernel_rfl : _ = Value.pointer (some ⟨b1, 1, none⟩)) (HS13.cell 1)) ?_)
    have hq_ := bind_some h; clear h; obtain ⟨vt22, hc23, h⟩ := hq_
    refine seqL2 (by kernel_rfl) ?_
    refine seqK rfl (does_call (f := 10) (args := #[.int .i64 (w64 ((w64 (s3.vat + 1)) * 7919)), .int .i64 n7]) (by kernel_rfl) (spymake_Below.calls k (w64 ((w64 (s3.vat + 1)) * 7919)) n7 HS13 vt22 hc23) ?_)
    rintro _ W26 ⟨f24, rfl, L25, HS27⟩
    refine ⟨_, rfl, ?_⟩
    refine seqS1 (a' := ⟨#[.pointer (some ⟨b1, 0, none⟩), iV n7, uV, uV, iV vt22, uV, uV, .pointer (some ⟨b1, 0, none⟩), .pointer (some ⟨b1, 0, none⟩), .pointer (some ⟨b1, 1, none⟩), iV s3.vat, iV (w64 (s3.vat + 1)), .pointer (some ⟨b1, 0, none⟩), .pointer (some ⟨b1, 1, none⟩), .pointer (some ⟨b1, 0, none⟩), .pointer (some ⟨b1, 0, none⟩), .pointer (some ⟨b1, 0, none⟩), .slice A4 s3.L.length c5, iV (s3.L.length : Int), .bool true, .pointer (some ⟨b1, 0, none⟩), .pointer (some ⟨b1, 0, none⟩), .pointer (some ⟨b1, 1, none⟩), iV (w64 (s3.vat + 1)), iV (w64 ((w64 (s3.vat + 1)) * 7919)), iV n7, iV vt22, uV, uV, uV, uV, uV, uV, uV, uV, uV, uV, uV, uV, uV, uV, uV, uV, uV, uV, uV, uV, uV, uV, uV, uV, uV, uV, uV, uV, uV, uV, uV, uV, uV, uV, uV, uV, uV], []⟩) (by kernel_rfl) ?_
    refine wpList_nil ?_
    refine hK21 _ _ ?_
    refine wp_ret ?_
    refine hret _ _ ?_
    refine ends_still (v := Value.int .i64 vt22) (by kernel_rfl) (by kernel_rfl) ?_
    injection h with h
    injection h with h0_ h
    subst h0_ h
    exact ⟨f24, rfl, L25, HS27⟩
  · have c19 : ¬ ((s3.L.length : Int) = 0) := c19
    refine wpRwI 19 (x := ((s3.L.length : Int) == 0)) (v := false) (by kernel_rfl) (beq_eq_false_iff_ne.mpr c19) ?_
    refine condF (by kernel_rfl) ?_
    refine wp_skip ?_
    refine hK15 _ _ ?_
    refine wp_seq_k (fun K28 hK29 => ?_)
    refine heldG (S := Sg t f ([(b1, .cells #[.slice A4 s3.L.length c5, .int .i64 (w64 (s3.vat + 1))] 25 (0, 0))] :: H) []) (n := 12) (by kernel_rfl) rfl HS13 ?_
    intro W30 HS31
    refine takeG [0, 1, 2] (n := 12) (fuel := 9) (l' := #[true, true, true, false, false, false, false, false, false, false, false, false]) (a' := ⟨#[.pointer (some ⟨b1, 0, none⟩), iV n7, uV, uV, iV 0, uV, uV, .pointer (some ⟨b1, 0, none⟩), .pointer (some ⟨b1, 0, none⟩), .pointer (some ⟨b1, 1, none⟩), iV s3.vat, iV (w64 (s3.vat + 1)), .pointer (some ⟨b1, 0, none⟩), .pointer (some ⟨b1, 1, none⟩), .pointer (some ⟨b1, 0, none⟩), .pointer (some ⟨b1, 0, none⟩), .pointer (some ⟨b1, 0, none⟩), .slice A4 s3.L.length c5, iV (s3.L.length : Int), .bool false, uV, uV, uV, uV, uV, uV, uV, .pointer (some ⟨b1, 0, none⟩), .pointer (some ⟨b1, 0, none⟩), .pointer (some ⟨b1, 1, none⟩), uV, uV, uV, uV, uV, uV, uV, uV, uV, uV, uV, uV, uV, uV, uV, uV, uV, uV, uV, uV, uV, uV, uV, uV, uV, uV, uV, uV, uV, uV, uV, uV, uV, uV], []⟩) rfl (by kernel_rfl) (by kernel_rfl) (by kernel_rfl) hnp (Sg.g0 (Sx.of [] (FM.le.refl _) HS31)) ?_
    refine takeGQ 3 [] rfl (by kernel_rfl) (by kernel_rfl) (by kernel_rfl) (by kernel_rfl) (by kernel_rfl) (by kernel_rfl) hnp (Sg.g0 (Sx.of [] (FM.le.refl _) HS31)) (fun w_ hw_ => by obtain ⟨g_, hl_, hS_⟩ := hw_.st; exact run_load rfl Try.underlying3 rfl (by kernel_rfl : _ = Value.pointer (some ⟨b1, 1, none⟩)) (hS_.cell 1)) ?_
    refine takeG [4, 5, 6, 7] (n := 8) (fuel := 4) (l' := #[true, true, true, true, true, true, true, true, false, false, false, false]) (a' := ⟨#[.pointer (some ⟨b1, 0, none⟩), iV n7, uV, uV, iV 0, uV, uV, .pointer (some ⟨b1, 0, none⟩), .pointer (some ⟨b1, 0, none⟩), .pointer (some ⟨b1, 1, none⟩), iV s3.vat, iV (w64 (s3.vat + 1)), .pointer (some ⟨b1, 0, none⟩), .pointer (some ⟨b1, 1, none⟩), .pointer (some ⟨b1, 0, none⟩), .pointer (some ⟨b1, 0, none⟩), .pointer (some ⟨b1, 0, none⟩), .slice A4 s3.L.length c5, iV (s3.L.length : Int), .bool false, uV, uV, uV, uV, uV, uV, uV, .pointer (some ⟨b1, 0, none⟩), .pointer (some ⟨b1, 0, none⟩), .pointer (some ⟨b1, 1, none⟩), iV (w64 (s3.vat + 1)), iV (w64 ((w64 (s3.vat + 1)) - 1)), .pointer (some ⟨b1, 0, none⟩), .pointer (some ⟨b1, 0, none⟩), .pointer (some ⟨b1, 0, none⟩), uV, uV, uV, uV, uV, uV, uV, uV, uV, uV, uV, uV, uV, uV, uV, uV, uV, uV, uV, uV, uV, uV, uV, uV, uV, uV, uV, uV, uV], []⟩) rfl (by kernel_rfl) (by kernel_rfl) (by kernel_rfl) hnp (Sg.g0 (Sx.of [] (FM.le.refl _) HS31)) ?_
    refine takeGQ 8 [] rfl (by kernel_rfl) (by kernel_rfl) (by kernel_rfl) (by kernel_rfl) (by kernel_rfl) (by kernel_rfl) hnp (Sg.g0 (Sx.of [] (FM.le.refl _) HS31)) (fun w_ hw_ => by obtain ⟨g_, hl_, hS_⟩ := hw_.st; exact run_load rfl Try.underlying22 rfl (by kernel_rfl : _ = Value.pointer (some ⟨b1, 0, none⟩)) (hS_.cell 0)) ?_
    have hq_ := guard_some h; clear h; obtain ⟨c32, h⟩ := hq_
    have c32 : ¬ ((s3.L.length : Int) = 0) := c32
    refine takeG [9] (n := 3) (fuel := 2) (l' := #[true, true, true, true, true, true, true, true, true, true, false, false]) (a' := ⟨#[.pointer (some ⟨b1, 0, none⟩), iV n7, uV, uV, iV 0, uV, uV, .pointer (some ⟨b1, 0, none⟩), .pointer (some ⟨b1, 0, none⟩), .pointer (some ⟨b1, 1, none⟩), iV s3.vat, iV (w64 (s3.vat + 1)), .pointer (some ⟨b1, 0, none⟩), .pointer (some ⟨b1, 1, none⟩), .pointer (some ⟨b1, 0, none⟩), .pointer (some ⟨b1, 0, none⟩), .pointer (some ⟨b1, 0, none⟩), .slice A4 s3.L.length c5, iV (s3.L.length : Int), .bool false, uV, uV, uV, uV, uV, uV, uV, .pointer (some ⟨b1, 0, none⟩), .pointer (some ⟨b1, 0, none⟩), .pointer (some ⟨b1, 1, none⟩), iV (w64 (s3.vat + 1)), iV (w64 ((w64 (s3.vat + 1)) - 1)), .pointer (some ⟨b1, 0, none⟩), .pointer (some ⟨b1, 0, none⟩), .pointer (some ⟨b1, 0, none⟩), .slice A4 s3.L.length c5, iV (s3.L.length : Int), uV, uV, uV, uV, uV, uV, uV, uV, uV, uV, uV, uV, uV, uV, uV, uV, uV, uV, uV, uV, uV, uV, uV, uV, uV, uV, uV], []⟩) rfl (by kernel_rfl) (by kernel_rfl) (by kernel_rfl) hnp (Sg.g0 (Sx.of [] (FM.le.refl _) HS31)) ?_
    refine takeGQ 10 [] rfl (by kernel_rfl) (by kernel_rfl) (by kernel_rfl) (by kernel_rfl) (by kernel_rfl) (by kernel_rfl) hnp (Sg.g0 (Sx.of [] (FM.le.refl _) HS31)) (fun w_ hw_ => by obtain ⟨g_, hl_, hS_⟩ := hw_.st; exact run_rem rfl (by kernel_rfl : _ = Value.int .i64 (w64 ((w64 (s3.vat + 1)) - 1))) (by kernel_rfl : _ = Value.int .i64 (s3.L.length : Int)) c32 w_) ?_
    refine takeG [11] (n := 1) (fuel := 0) (l' := #[true, true, true, true, true, true, true, true, true, true, true, true]) (a' := ⟨#[.pointer (some ⟨b1, 0, none⟩), iV n7, uV, uV, iV 0, iV (Int.tmod (w64 ((w64 (s3.vat + 1)) - 1)) (s3.L.length : Int)), uV, .pointer (some ⟨b1, 0, none⟩), .pointer (some ⟨b1, 0, none⟩), .pointer (some ⟨b1, 1, none⟩), iV s3.vat, iV (w64 (s3.vat + 1)), .pointer (some ⟨b1, 0, none⟩), .pointer (some ⟨b1, 1, none⟩), .pointer (some ⟨b1, 0, none⟩), .pointer (some ⟨b1, 0, none⟩), .pointer (some ⟨b1, 0, none⟩), .slice A4 s3.L.length c5, iV (s3.L.length : Int), .bool false, uV, uV, uV, uV, uV, uV, uV, .pointer (some ⟨b1, 0, none⟩), .pointer (some ⟨b1, 0, none⟩), .pointer (some ⟨b1, 1, none⟩), iV (w64 (s3.vat + 1)), iV (w64 ((w64 (s3.vat + 1)) - 1)), .pointer (some ⟨b1, 0, none⟩), .pointer (some ⟨b1, 0, none⟩), .pointer (some ⟨b1, 0, none⟩), .slice A4 s3.L.length c5, iV (s3.L.length : Int), iV (Int.tmod (w64 ((w64 (s3.vat + 1)) - 1)) (s3.L.length : Int)), uV, uV, uV, uV, uV, uV, uV, uV, uV, uV, uV, uV, uV, uV, uV, uV, uV, uV, uV, uV, uV, uV, uV, uV, uV, uV], []⟩) rfl (by kernel_rfl) (by kernel_rfl) (by kernel_rfl) hnp (Sg.g0 (Sx.of [] (FM.le.refl _) HS31)) ?_
    refine doneG (by kernel_rfl) ?_ _
    refine hK29 _ _ ?_
    refine wp_seq_k (fun K33 hK34 => ?_)
    refine heldG (S := Sg t f ([(b1, .cells #[.slice A4 s3.L.length c5, .int .i64 (w64 (s3.vat + 1))] 25 (0, 0))] :: H) []) (n := 12) (by kernel_rfl) rfl HS31 ?_
    intro W35 HS36
    refine takeG [0, 1, 2] (n := 12) (fuel := 9) (l' := #[true, true, true, false, false, false, false, false, false, false, false, false]) (a' := ⟨#[.pointer (some ⟨b1, 0, none⟩), iV n7, uV, uV, iV 0, iV (Int.tmod (w64 ((w64 (s3.vat + 1)) - 1)) (s3.L.length : Int)), uV, .pointer (some ⟨b1, 0, none⟩), .pointer (some ⟨b1, 0, none⟩), .pointer (some ⟨b1, 1, none⟩), iV s3.vat, iV (w64 (s3.vat + 1)), .pointer (some ⟨b1, 0, none⟩), .pointer (some ⟨b1, 1, none⟩), .pointer (some ⟨b1, 0, none⟩), .pointer (some ⟨b1, 0, none⟩), .pointer (some ⟨b1, 0, none⟩), .slice A4 s3.L.length c5, iV (s3.L.length : Int), .bool false, uV, uV, uV, uV, uV, uV, uV, .pointer (some ⟨b1, 0, none⟩), .pointer (some ⟨b1, 0, none⟩), .pointer (some ⟨b1, 1, none⟩), iV (w64 (s3.vat + 1)), iV (w64 ((w64 (s3.vat + 1)) - 1)), .pointer (some ⟨b1, 0, none⟩), .pointer (some ⟨b1, 0, none⟩), .pointer (some ⟨b1, 0, none⟩), .slice A4 s3.L.length c5, iV (s3.L.length : Int), iV (Int.tmod (w64 ((w64 (s3.vat + 1)) - 1)) (s3.L.length : Int)), .pointer (some ⟨b1, 0, none⟩), .pointer (some ⟨b1, 0, none⟩), .pointer (some ⟨b1, 1, none⟩), uV, uV, uV, uV, uV, uV, uV, uV, uV, uV, uV, uV, uV, uV, uV, uV, uV, uV, uV, uV, uV, uV, uV], []⟩) rfl (by kernel_rfl) (by kernel_rfl) (by kernel_rfl) hnp (Sg.g0 (Sx.of [] (FM.le.refl _) HS36)) ?_
    refine takeGQ 3 [] rfl (by kernel_rfl) (by kernel_rfl) (by kernel_rfl) (by kernel_rfl) (by kernel_rfl) (by kernel_rfl) hnp (Sg.g0 (Sx.of [] (FM.le.refl _) HS36)) (fun w_ hw_ => by obtain ⟨g_, hl_, hS_⟩ := hw_.st; exact run_load rfl Try.underlying3 rfl (by kernel_rfl : _ = Value.pointer (some ⟨b1, 1, none⟩)) (hS_.cell 1)) ?_
    refine takeG [4, 5, 6, 7] (n := 8) (fuel := 4) (l' := #[true, true, true, true, true, true, true, true, false, false, false, false]) (a' := ⟨#[.pointer (some ⟨b1, 0, none⟩), iV n7, uV, uV, iV 0, iV (Int.tmod (w64 ((w64 (s3.vat + 1)) - 1)) (s3.L.length : Int)), uV, .pointer (some ⟨b1, 0, none⟩), .pointer (some ⟨b1, 0, none⟩), .pointer (some ⟨b1, 1, none⟩), iV s3.vat, iV (w64 (s3.vat + 1)), .pointer (some ⟨b1, 0, none⟩), .pointer (some ⟨b1, 1, none⟩), .pointer (some ⟨b1, 0, none⟩), .pointer (some ⟨b1, 0, none⟩), .pointer (some ⟨b1, 0, none⟩), .slice A4 s3.L.length c5, iV (s3.L.length : Int), .bool false, uV, uV, uV, uV, uV, uV, uV, .pointer (some ⟨b1, 0, none⟩), .pointer (some ⟨b1, 0, none⟩), .pointer (some ⟨b1, 1, none⟩), iV (w64 (s3.vat + 1)), iV (w64 ((w64 (s3.vat + 1)) - 1)), .pointer (some ⟨b1, 0, none⟩), .pointer (some ⟨b1, 0, none⟩), .pointer (some ⟨b1, 0, none⟩), .slice A4 s3.L.length c5, iV (s3.L.length : Int), iV (Int.tmod (w64 ((w64 (s3.vat + 1)) - 1)) (s3.L.length : Int)), .pointer (some ⟨b1, 0, none⟩), .pointer (some ⟨b1, 0, none⟩), .pointer (some ⟨b1, 1, none⟩), iV (w64 (s3.vat + 1)), iV (w64 ((w64 (s3.vat + 1)) - 1)), .pointer (some ⟨b1, 0, none⟩), .pointer (some ⟨b1, 0, none⟩), .pointer (some ⟨b1, 0, none⟩), uV, uV, uV, uV, uV, uV, uV, uV, uV, uV, uV, uV, uV, uV, uV, uV, uV, uV], []⟩) rfl (by kernel_rfl) (by kernel_rfl) (by kernel_rfl) hnp (Sg.g0 (Sx.of [] (FM.le.refl _) HS36)) ?_
    refine takeGQ 8 [] rfl (by kernel_rfl) (by kernel_rfl) (by kernel_rfl) (by kernel_rfl) (by kernel_rfl) (by kernel_rfl) hnp (Sg.g0 (Sx.of [] (FM.le.refl _) HS36)) (fun w_ hw_ => by obtain ⟨g_, hl_, hS_⟩ := hw_.st; exact run_load rfl Try.underlying22 rfl (by kernel_rfl : _ = Value.pointer (some ⟨b1, 0, none⟩)) (hS_.cell 0)) ?_
    refine takeG [9] (n := 3) (fuel := 2) (l' := #[true, true, true, true, true, true, true, true, true, true, false, false]) (a' := ⟨#[.pointer (some ⟨b1, 0, none⟩), iV n7, uV, uV, iV 0, iV (Int.tmod (w64 ((w64 (s3.vat + 1)) - 1)) (s3.L.length : Int)), uV, .pointer (some ⟨b1, 0, none⟩), .pointer (some ⟨b1, 0, none⟩), .pointer (some ⟨b1, 1, none⟩), iV s3.vat, iV (w64 (s3.vat + 1)), .pointer (some ⟨b1, 0, none⟩), .pointer (some ⟨b1, 1, none⟩), .pointer (some ⟨b1, 0, none⟩), .pointer (some ⟨b1, 0, none⟩), .pointer (some ⟨b1, 0, none⟩), .slice A4 s3.L.length c5, iV (s3.L.length : Int), .bool false, uV, uV, uV, uV, uV, uV, uV, .pointer (some ⟨b1, 0, none⟩), .pointer (some ⟨b1, 0, none⟩), .pointer (some ⟨b1, 1, none⟩), iV (w64 (s3.vat + 1)), iV (w64 ((w64 (s3.vat + 1)) - 1)), .pointer (some ⟨b1, 0, none⟩), .pointer (some ⟨b1, 0, none⟩), .pointer (some ⟨b1, 0, none⟩), .slice A4 s3.L.length c5, iV (s3.L.length : Int), iV (Int.tmod (w64 ((w64 (s3.vat + 1)) - 1)) (s3.L.length : Int)), .pointer (some ⟨b1, 0, none⟩), .pointer (some ⟨b1, 0, none⟩), .pointer (some ⟨b1, 1, none⟩), iV (w64 (s3.vat + 1)), iV (w64 ((w64 (s3.vat + 1)) - 1)), .pointer (some ⟨b1, 0, none⟩), .pointer (some ⟨b1, 0, none⟩), .pointer (some ⟨b1, 0, none⟩), .slice A4 s3.L.length c5, iV (s3.L.length : Int), uV, uV, uV, uV, uV, uV, uV, uV, uV, uV, uV, uV, uV, uV, uV, uV], []⟩) rfl (by kernel_rfl) (by kernel_rfl) (by kernel_rfl) hnp (Sg.g0 (Sx.of [] (FM.le.refl _) HS36)) ?_
    refine takeGQ 10 [] rfl (by kernel_rfl) (by kernel_rfl) (by kernel_rfl) (by kernel_rfl) (by kernel_rfl) (by kernel_rfl) hnp (Sg.g0 (Sx.of [] (FM.le.refl _) HS36)) (fun w_ hw_ => by obtain ⟨g_, hl_, hS_⟩ := hw_.st; exact run_div rfl (by kernel_rfl : _ = Value.int .i64 (w64 ((w64 (s3.vat + 1)) - 1))) (by kernel_rfl : _ = Value.int .i64 (s3.L.length : Int)) c32 w_) ?_
    refine takeG [11] (n := 1) (fuel := 0) (l' := #[true, true, true, true, true, true, true, true, true, true, true, true]) (a' := ⟨#[.pointer (some ⟨b1, 0, none⟩), iV n7, uV, uV, iV 0, iV (Int.tmod (w64 ((w64 (s3.vat + 1)) - 1)) (s3.L.length : Int)), iV (w64 (Int.tdiv (w64 ((w64 (s3.vat + 1)) - 1)) (s3.L.length : Int))), .pointer (some ⟨b1, 0, none⟩), .pointer (some ⟨b1, 0, none⟩), .pointer (some ⟨b1, 1, none⟩), iV s3.vat, iV (w64 (s3.vat + 1)), .pointer (some ⟨b1, 0, none⟩), .pointer (some ⟨b1, 1, none⟩), .pointer (some ⟨b1, 0, none⟩), .pointer (some ⟨b1, 0, none⟩), .pointer (some ⟨b1, 0, none⟩), .slice A4 s3.L.length c5, iV (s3.L.length : Int), .bool false, uV, uV, uV, uV, uV, uV, uV, .pointer (some ⟨b1, 0, none⟩), .pointer (some ⟨b1, 0, none⟩), .pointer (some ⟨b1, 1, none⟩), iV (w64 (s3.vat + 1)), iV (w64 ((w64 (s3.vat + 1)) - 1)), .pointer (some ⟨b1, 0, none⟩), .pointer (some ⟨b1, 0, none⟩), .pointer (some ⟨b1, 0, none⟩), .slice A4 s3.L.length c5, iV (s3.L.length : Int), iV (Int.tmod (w64 ((w64 (s3.vat + 1)) - 1)) (s3.L.length : Int)), .pointer (some ⟨b1, 0, none⟩), .pointer (some ⟨b1, 0, none⟩), .pointer (some ⟨b1, 1, none⟩), iV (w64 (s3.vat + 1)), iV (w64 ((w64 (s3.vat + 1)) - 1)), .pointer (some ⟨b1, 0, none⟩), .pointer (some ⟨b1, 0, none⟩), .pointer (some ⟨b1, 0, none⟩), .slice A4 s3.L.length c5, iV (s3.L.length : Int), iV (w64 (Int.tdiv (w64 ((w64 (s3.vat + 1)) - 1)) (s3.L.length : Int))), uV, uV, uV, uV, uV, uV, uV, uV, uV, uV, uV, uV, uV, uV, uV], []⟩) rfl (by kernel_rfl) (by kernel_rfl) (by kernel_rfl) hnp (Sg.g0 (Sx.of [] (FM.le.refl _) HS36)) ?_
    refine doneG (by kernel_rfl) ?_ _
    refine hK34 _ _ ?_
    refine wp_seq_k (fun K37 hK38 => ?_)
    refine wp_region_lit ?_
    refine seqL3 (by kernel_rfl) ?_
    refine seqK rfl (does_run (run_load rfl Try.underlying22 rfl (by kernel_rfl : _ = Value.pointer (some ⟨b1, 0, none⟩)) (HS36.cell 0)) ?_)
    have hq_ := guard_some h; clear h; obtain ⟨c39, h⟩ := hq_
    have c39 : 0 ≤ (Int.tmod (w64 ((w64 (s3.vat + 1)) - 1)) (s3.L.length : Int)) := c39
    have hq_ := guard_some h; clear h; obtain ⟨c40, h⟩ := hq_
    have c40 : (Int.tmod (w64 ((w64 (s3.vat + 1)) - 1)) (s3.L.length : Int)) < (s3.L.length : Int) := c40
    obtain ⟨b44, of45, cs41, hA46, hr42, hc43⟩ := HR6.at (i := Int.tmod (w64 ((w64 (s3.vat + 1)) - 1)) (s3.L.length : Int)) c39 c40
    obtain rfl := hr42
    refine seqL1 (by kernel_rfl) ?_
    refine seqK rfl (does_run (run_indexE hA46 (sz := 1) rfl Try.underlying22 (by kernel_rfl) (by kernel_rfl : _ = Value.slice A4 s3.L.length c5) (by kernel_rfl : _ = Value.int .i64 (Int.tmod (w64 ((w64 (s3.vat + 1)) - 1)) (s3.L.length : Int))) c39 c40 W35) ?_)
    refine seqK rfl (does_run (run_load rfl Try.underlying3 rfl (by kernel_rfl : _ = Value.pointer (some ⟨b44, of45 + (Int.tmod (w64 ((w64 (s3.vat + 1)) - 1)) (s3.L.length : Int) : Int).toNat * 1, none⟩)) ((hc43 (FM.le.refl _) HS36) 0 (by decide))) ?_)
    have hq_ := bind_some h; clear h; obtain ⟨vt47, hc48, h⟩ := hq_
    refine seqK rfl (does_call (f := 10) (args := #[.int .i64 (rd s3.L (Int.tmod (w64 ((w64 (s3.vat + 1)) - 1)) (s3.L.length : Int))), .int .i64 1073741824]) (by kernel_rfl) (spymake_Below.calls k (rd s3.L (Int.tmod (w64 ((w64 (s3.vat + 1)) - 1)) (s3.L.length : Int))) 1073741824 HS36 vt47 hc48) ?_)
    rintro _ W51 ⟨f49, rfl, L50, HS52⟩
    refine ⟨_, rfl, ?_⟩
    have hq_ := bind_some h; clear h; obtain ⟨vt53, hc54, h⟩ := hq_
    refine seqL6 (by kernel_rfl) ?_
    refine seqK rfl (does_call (f := 10) (args := #[.int .i64 (w64 (vt47 + (w64 ((w64 (Int.tdiv (w64 ((w64 (s3.vat + 1)) - 1)) (s3.L.length : Int))) * (w64 (7919 + (Int.tmod (w64 ((w64 (s3.vat + 1)) - 1)) (s3.L.length : Int)))))))), .int .i64 n7]) (by kernel_rfl) (spymake_Below.calls k (w64 (vt47 + (w64 ((w64 (Int.tdiv (w64 ((w64 (s3.vat + 1)) - 1)) (s3.L.length : Int))) * (w64 (7919 + (Int.tmod (w64 ((w64 (s3.vat + 1)) - 1)) (s3.L.length : Int)))))))) n7 HS52 vt53 hc54) ?_)
    rintro _ W57 ⟨f55, rfl, L56, HS58⟩
    refine ⟨_, rfl, ?_⟩
    refine seqS1 (a' := ⟨#[.pointer (some ⟨b1, 0, none⟩), iV n7, uV, uV, iV vt53, iV (Int.tmod (w64 ((w64 (s3.vat + 1)) - 1)) (s3.L.length : Int)), iV (w64 (Int.tdiv (w64 ((w64 (s3.vat + 1)) - 1)) (s3.L.length : Int))), .pointer (some ⟨b1, 0, none⟩), .pointer (some ⟨b1, 0, none⟩), .pointer (some ⟨b1, 1, none⟩), iV s3.vat, iV (w64 (s3.vat + 1)), .pointer (some ⟨b1, 0, none⟩), .pointer (some ⟨b1, 1, none⟩), .pointer (some ⟨b1, 0, none⟩), .pointer (some ⟨b1, 0, none⟩), .pointer (some ⟨b1, 0, none⟩), .slice A4 s3.L.length c5, iV (s3.L.length : Int), .bool false, uV, uV, uV, uV, uV, uV, uV, .pointer (some ⟨b1, 0, none⟩), .pointer (some ⟨b1, 0, none⟩), .pointer (some ⟨b1, 1, none⟩), iV (w64 (s3.vat + 1)), iV (w64 ((w64 (s3.vat + 1)) - 1)), .pointer (some ⟨b1, 0, none⟩), .pointer (some ⟨b1, 0, none⟩), .pointer (some ⟨b1, 0, none⟩), .slice A4 s3.L.length c5, iV (s3.L.length : Int), iV (Int.tmod (w64 ((w64 (s3.vat + 1)) - 1)) (s3.L.length : Int)), .pointer (some ⟨b1, 0, none⟩), .pointer (some ⟨b1, 0, none⟩), .pointer (some ⟨b1, 1, none⟩), iV (w64 (s3.vat + 1)), iV (w64 ((w64 (s3.vat + 1)) - 1)), .pointer (some ⟨b1, 0, none⟩), .pointer (some ⟨b1, 0, none⟩), .pointer (some ⟨b1, 0, none⟩), .slice A4 s3.L.length c5, iV (s3.L.length : Int), iV (w64 (Int.tdiv (w64 ((w64 (s3.vat + 1)) - 1)) (s3.L.length : Int))), .pointer (some ⟨b1, 0, none⟩), .pointer (some ⟨b1, 0, none⟩), .pointer (some ⟨b1, 0, none⟩), .slice A4 s3.L.length c5, iV (Int.tmod (w64 ((w64 (s3.vat + 1)) - 1)) (s3.L.length : Int)), .pointer (some ⟨b44, of45 + (Int.tmod (w64 ((w64 (s3.vat + 1)) - 1)) (s3.L.length : Int) : Int).toNat * 1, none⟩), iV (rd s3.L (Int.tmod (w64 ((w64 (s3.vat + 1)) - 1)) (s3.L.length : Int))), iV vt47, iV (w64 (Int.tdiv (w64 ((w64 (s3.vat + 1)) - 1)) (s3.L.length : Int))), iV (Int.tmod (w64 ((w64 (s3.vat + 1)) - 1)) (s3.L.length : Int)), iV (w64 (7919 + (Int.tmod (w64 ((w64 (s3.vat + 1)) - 1)) (s3.L.length : Int)))), iV (w64 ((w64 (Int.tdiv (w64 ((w64 (s3.vat + 1)) - 1)) (s3.L.length : Int))) * (w64 (7919 + (Int.tmod (w64 ((w64 (s3.vat + 1)) - 1)) (s3.L.length : Int)))))), iV (w64 (vt47 + (w64 ((w64 (Int.tdiv (w64 ((w64 (s3.vat + 1)) - 1)) (s3.L.length : Int))) * (w64 (7919 + (Int.tmod (w64 ((w64 (s3.vat + 1)) - 1)) (s3.L.length : Int)))))))), iV n7, iV vt53], []⟩) (by kernel_rfl) ?_
    refine wpList_nil ?_
    refine hK38 _ _ ?_
    refine wp_ret ?_
    refine hret _ _ ?_
    refine ends_still (v := Value.int .i64 vt53) (by kernel_rfl) (by kernel_rfl) ?_
    injection h with h
    injection h with h0_ h
    subst h0_ h
    exact ⟨f55, rfl, (L50.trans L56), HS58⟩

set_option maxRecDepth 100000 in
set_option maxHeartbeats 4000000 in
theorem spymake_Stream_Range.calls (k : Nat) (b1 : Nat) (A4 : Option Addr) (c5 : Nat) (s3 : S_Stream) (low7 : Int) (high8 : Int) {t w : World} {f : FM} {H : List Seg} (HS : St t w f ([(b1, .cells #[.slice A4 s3.L.length c5, .int .i64 s3.vat] 25 (0, 0))] :: H)) (HR6 : SlR (tInt .i64) f A4 c5 s3.L) (r1 : Int) (r2 : Int) (h : spymake_Stream_Range k s3 low7 high8 = some (r1, r2)) :
    Calls Try.prog 25 #[.pointer (some ⟨b1, 0, none⟩), .int .i64 low7, .int .i64 high8] w (fun e w' => ∃ (g : FM), e = .returned (Value.int .i64 r1) ∧ FM.le f g ∧ St t w' g ([(b1, .cells #[.slice A4 s3.L.length c5, .int .i64 r2] 25 (0, 0))] :: H)) := by
  unfold spymake_Stream_Range at h
  refine enter Try.func25 rfl (tm := #[.pointer (some ⟨b1, 0, none⟩), iV low7, iV high8, uV, uV, uV, uV, uV, uV, uV, uV, uV, uV, uV, uV, uV, uV, uV, uV]) (by kernel_rfl) ?_
  intro B hret hnor hnp
  refine wp_seq_k (fun K9 hK10 => ?_)
  refine wp_region_lit ?_
  refine seqS1 (a' := ⟨#[.pointer (some ⟨b1, 0, none⟩), iV low7, iV high8, uV, uV, uV, iV 0, uV, uV, uV, uV, uV, uV, uV, uV, uV, uV, uV, uV], []⟩) (by kernel_rfl) ?_
  refine wpList_nil ?_
  refine hK10 _ _ ?_
  refine wp_seq_k (fun K11 hK12 => ?_)
  refine wp_seq_k (fun K13 hK14 => ?_)
  refine wp_region_lit ?_
  refine seqS3 (a' := ⟨#[.pointer (some ⟨b1, 0, none⟩), iV low7, iV high8, uV, uV, uV, iV 0, iV high8, iV low7, .bool (decide (high8 < low7)), uV, uV, uV, uV, uV, uV, uV, uV, uV], []⟩) (by kernel_rfl) ?_
  refine wpList_nil ?_
  refine hK14 _ _ ?_
  have hq_ := ite_some h; clear h; rcases hq_ with ⟨c16, h⟩ | ⟨c16, h⟩
  · have c16 : high8 < low7 := c16
    refine wpRwI 9 (x := (decide (high8 < low7))) (v := true) (by kernel_rfl) (decide_eq_true c16) ?_
    refine condT (by kernel_rfl) ?_
    refine wp_seq_k (fun K17 hK18 => ?_)
    refine wp_region_lit ?_
    refine seqS2 (a' := ⟨#[.pointer (some ⟨b1, 0, none⟩), iV low7, iV high8, uV, uV, uV, iV low7, iV high8, iV low7, .bool true, iV low7, uV, uV, uV, uV, uV, uV, uV, uV], []⟩) (by kernel_rfl) ?_
    refine wpList_nil ?_
    refine hK18 _ _ ?_
    refine wp_ret ?_
    refine hret _ _ ?_
    refine ends_still (v := Value.int .i64 low7) (by kernel_rfl) (by kernel_rfl) ?_
    injection h with h
    injection h with h0_ h
    subst h0_ h
    exact ⟨f, rfl, FM.le.refl _, HS⟩
  · have c16 : ¬ (high8 < low7) := c16
    refine wpRwI 9 (x := (decide (high8 < low7))) (v := false) (by kernel_rfl) (decide_eq_false c16) ?_
    refine condF (by kernel_rfl) ?_
    refine wp_skip ?_
    refine hK12 _ _ ?_
    refine wp_seq_k (fun K19 hK20 => ?_)
    refine wp_region_lit ?_
    have hq_ := bind_some h; clear h; obtain ⟨⟨vt21, vt22⟩, hc23, h⟩ := hq_
    refine seqL6 (by kernel_rfl) ?_
    refine seqK rfl (does_call (f := 12) (args := #[.pointer (some ⟨b1, 0, none⟩), .int .i64 (w64 ((w64 (high8 - low7)) + 1))]) (by kernel_rfl) (spymake_Stream_Next.calls k b1 A4 c5 s3 (w64 ((w64 (high8 - low7)) + 1)) HS HR6 vt21 vt22 hc23) ?_)
    rintro _ W26 ⟨f24, rfl, L25, HS27⟩
    refine ⟨_, rfl, ?_⟩
    refine seqS2 (a' := ⟨#[.pointer (some ⟨b1, 0, none⟩), iV low7, iV high8, uV, uV, uV, iV (w64 (low7 + vt21)), iV high8, iV low7, .bool false, uV, iV low7, .pointer (some ⟨b1, 0, none⟩), iV high8, iV low7, iV (w64 (high8 - low7)), iV (w64 ((w64 (high8 - low7)) + 1)), iV vt21, iV (w64 (low7 + vt21))], []⟩) (by kernel_rfl) ?_
    refine wpList_nil ?_
    refine hK20 _ _ ?_
    refine wp_ret ?_
    refine hret _ _ ?_
    refine ends_still (v := Value.int .i64 (w64 (low7 + vt21))) (by kernel_rfl) (by kernel_rfl) ?_
    injection h with h
    injection h with h0_ h
    subst h0_ h
    exact ⟨f24, rfl, L25, HS27⟩

set_option maxRecDepth 100000 in
set_option maxHeartbeats 4000000 in
theorem spymake_Stream_Field.calls (k : Nat) (b1 : Nat) (A4 : Option Addr) (c5 : Nat) (s3 : S_Stream) (vw7 : Int) (vh8 : Int) {t w : World} {f : FM} {H : List Seg} (HS : St t w f ([(b1, .cells #[.slice A4 s3.L.length c5, .int .i64 s3.vat] 25 (0, 0))] :: H)) (HR6 : SlR (tInt .i64) f A4 c5 s3.L) (r1 : S_Cells) (r2 : Int) (h : spymake_Stream_Field k s3 vw7 vh8 = some (r1, r2)) :
    Calls Try.prog 35 #[.pointer (some ⟨b1, 0, none⟩), .int .i64 vw7, .int .i64 vh8] w (fun e w' => ∃ (g : FM) (A366 : Option Addr) (c367 : Nat) (s368 : Seg), e = .returned (Value.agg #[.int .i64 r1.W, .int .i64 r1.H, .slice A366 r1.At.length c367]) ∧ FM.le f g ∧ St t w' g (s368 :: [(b1, .cells #[.slice A4 s3.L.length c5, .int .i64 r2] 25 (0, 0))] :: H) ∧ Own ty_Bound 44 g A366 c367 s368 r1.At) := by
  unfold spymake_Stream_Field at h
  refine enter Try.func35 rfl (tm := #[.pointer (some ⟨b1, 0, none⟩), iV vw7, iV vh8, uV, uV, uV, uV, uV, uV, uV, uV, uV, uV, uV, uV, uV, uV, uV, uV, uV, uV, uV, uV, uV, uV, uV, uV, uV, uV, uV, uV, uV, uV, uV, uV, uV, uV, uV, uV, uV, uV, uV, uV, uV, uV, uV, uV, uV, uV, uV, uV, uV, uV, uV, uV, uV, uV]) (by kernel_rfl) ?_
  intro B hret hnor hnp
  refine wp_seq_k (fun K9 hK10 => ?_)
  refine wp_region_lit ?_
  refine seqK rfl (does_alloc (z := Value.agg #[.int .i64 0, .int .i64 0, .slice none 0 0]) (cs := #[.int .i64 0, .int .i64 0, .slice none 0 0]) rfl (by kernel_rfl) rfl HS ?_)
  intro b11 W12 HS13
  refine wpList_nil ?_
  refine hK10 _ _ ?_
  refine wp_seq_k (fun K15 hK16 => ?_)
  refine wp_region_lit ?_
  refine seqL3 (by kernel_rfl) ?_
  refine seqK rfl (does_alloc (z := Value.agg #[.int .i64 0, .int .i64 0, .slice none 0 0]) (cs := #[.int .i64 0, .int .i64 0, .slice none 0 0]) rfl (by kernel_rfl) rfl HS13 ?_)
  intro b17 W18 HS19
  refine seqK rfl (does_store (n := 3) (vs := [.int .i64 vw7, .int .i64 vh8, .slice none 0 0]) (cs' := #[.int .i64 vw7, .int .i64 vh8, .slice none 0 0]) rfl (by kernel_rfl) (by kernel_rfl : _ = Value.pointer (some ⟨b17, 0, none⟩)) (by kernel_rfl : _ = Value.agg #[.int .i64 vw7, .int .i64 vh8, .slice none 0 0]) rfl rfl (by intro u_ hu_; simp only [List.mem_cons, List.not_mem_nil, or_false] at hu_; rcases hu_ with rfl | rfl | rfl <;> rfl) HS19 (Nat.le_of_ble_eq_true rfl) (by kernel_rfl) ?_)
  intro W21 HS22
  refine wpList_nil ?_
  refine hK16 _ _ ?_
  refine wp_seq_k (fun K23 hK24 => ?_)
  refine wp_region_lit ?_
  have HS25 := HS22.u2
  have hq_ := bind_some h; clear h; obtain ⟨⟨vt26, vt27⟩, hc28, h⟩ := hq_
  refine seqL1 (by kernel_rfl) ?_
  refine seqK rfl (does_call (f := 12) (args := #[.pointer (some ⟨b1, 0, none⟩), .int .i64 200]) (by kernel_rfl) (spymake_Stream_Next.calls k b1 A4 c5 s3 200 HS25 HR6 vt26 vt27 hc28) ?_)
  rintro _ W31 ⟨f29, rfl, L30, HS32⟩
  refine ⟨_, rfl, ?_⟩
  have hq_ := bind_some h; clear h; obtain ⟨⟨vt33, vt34⟩, hc35, h⟩ := hq_
  refine seqL1 (by kernel_rfl) ?_
  refine seqK rfl (does_call (f := 25) (args := #[.pointer (some ⟨b1, 0, none⟩), .int .i64 0, .int .i64 30]) (by kernel_rfl) (spymake_Stream_Range.calls k b1 A4 c5 (⟨s3.L, vt27⟩ : S_Stream) 0 30 HS32 (HR6.mono L30) vt33 vt34 hc35) ?_)
  rintro _ W38 ⟨f36, rfl, L37, HS39⟩
  refine ⟨_, rfl, ?_⟩
  refine seqS2 (a' := ⟨#[.pointer (some ⟨b1, 0, none⟩), iV vw7, iV vh8, uV, uV, uV, .pointer (some ⟨b11, 0, none⟩), .pointer (some ⟨b17, 0, none⟩), iV vt26, iV vt33, uV, uV, iV vw7, iV vh8, .agg #[iV vw7, iV vh8, .slice none 0 0], .pointer (some ⟨b1, 0, none⟩), iV vt26, .pointer (some ⟨b1, 0, none⟩), iV vt33, uV, uV, uV, uV, uV, uV, uV, uV, uV, uV, uV, uV, uV, uV, uV, uV, uV, uV, uV, uV, uV, uV, uV, uV, uV, uV, uV, uV, uV, uV, uV, uV, uV, uV, uV, uV, uV, uV], []⟩) (by kernel_rfl) ?_
  refine wpList_nil ?_
  refine hK24 _ _ ?_
  refine wp_seq_k (fun K40 hK41 => ?_)
  refine wp_seq_k (fun K42 hK43 => ?_)
  refine wp_region_lit ?_
  refine seqS4 (a' := ⟨#[.pointer (some ⟨b1, 0, none⟩), iV vw7, iV vh8, uV, uV, uV, .pointer (some ⟨b11, 0, none⟩), .pointer (some ⟨b17, 0, none⟩), iV vt26, iV vt33, uV, uV, iV vw7, iV vh8, .agg #[iV vw7, iV vh8, .slice none 0 0], .pointer (some ⟨b1, 0, none⟩), iV vt26, .pointer (some ⟨b1, 0, none⟩), iV vt33, iV vw7, iV vh8, iV (w64 (vw7 * vh8)), iV 0, uV, uV, uV, uV, uV, uV, uV, uV, uV, uV, uV, uV, uV, uV, uV, uV, uV, uV, uV, uV, uV, uV, uV, uV, uV, uV, uV, uV, uV, uV, uV, uV, uV, uV], []⟩) (by kernel_rfl) ?_
  refine wpList_nil ?_
  refine hK43 _ _ ?_
  refine blockK (fun B44 hx45 hn46 hr47 ho48 hp49 => ?_)
  have hq_ := bind_some h; clear h; obtain ⟨o186, hv338, h⟩ := hq_
  have J339 : ∀ (f326 : FM) (A333 : Option Addr) (c334 : Nat) (s335 : Seg) (x331 : Int) (x332 : List S_Bound) (j330 : Nat → Value) (W328 : World) (a_ : Act), FM.le f36 f326 → some ((x331, x332)) = some o186 → St t W328 f326 (s335 :: [(b1, .cells #[.slice A4 s3.L.length c5, .int .i64 x331] 25 (0, 0))] :: [(b17, .cells #[.int .i64 vw7, .int .i64 vh8, .slice A333 x332.length c334] 34 (0, 0))] :: [(b11, .cells #[.int .i64 0, .int .i64 0, .slice none 0 0] 34 (0, 0))] :: H) → Own ty_Bound 44 f326 A333 c334 s335 x332 → a_ = ⟨#[.pointer (some ⟨b1, 0, none⟩), iV vw7, iV vh8, uV, uV, uV, .pointer (some ⟨b11, 0, none⟩), .pointer (some ⟨b17, 0, none⟩), iV vt26, iV vt33, (j330 0), (j330 1), iV vw7, iV vh8, .agg #[iV vw7, iV vh8, .slice none 0 0], .pointer (some ⟨b1, 0, none⟩), iV vt26, .pointer (some ⟨b1, 0, none⟩), iV vt33, iV vw7, iV vh8, iV (w64 (vw7 * vh8)), (j330 2), (j330 3), (j330 4), (j330 5), (j330 6), (j330 7), (j330 8), (j330 9), (j330 10), (j330 11), (j330 12), (j330 13), (j330 14), (j330 15), (j330 16), (j330 17), (j330 18), (j330 19), (j330 20), (j330 21), (j330 22), (j330 23), (j330 24), (j330 25), (j330 26), (j330 27), (j330 28), (j330 29), (j330 30), (j330 31), (j330 32), (j330 33), (j330 34), (j330 35), uV], []⟩ → K40 a_ W328 := by
    intro f326 A333 c334 s335 x331 x332 j330 W328 a_ L327 hj340 HS329 HO336 hfr_; subst hfr_
    injection hj340 with hj340; subst hj340; try dsimp only at h
    refine hK41 _ _ ?_
    refine wp_seq_k (fun K355 hK356 => ?_)
    refine wp_region_lit ?_
    refine seqK rfl (does_run (run_loadN (n := 3) rfl Try.underlying34 rfl (by kernel_rfl) (by kernel_rfl : _ = Value.pointer (some ⟨b17, 0, none⟩)) (cs := [.int .i64 vw7, .int .i64 vh8, .slice A333 x332.length c334]) rfl (HS329.u2.cells 0 3 _ rfl)) ?_)
    have HS357 := HS329.u3
    refine seqK rfl (does_store (n := 3) (vs := [.int .i64 vw7, .int .i64 vh8, .slice A333 x332.length c334]) (cs' := #[.int .i64 vw7, .int .i64 vh8, .slice A333 x332.length c334]) rfl (by kernel_rfl) (by kernel_rfl : _ = Value.pointer (some ⟨b11, 0, none⟩)) (by kernel_rfl : _ = Value.agg #[.int .i64 vw7, .int .i64 vh8, .slice A333 x332.length c334]) rfl rfl (by intro u_ hu_; simp only [List.mem_cons, List.not_mem_nil, or_false] at hu_; rcases hu_ with rfl | rfl | rfl <;> rfl) HS357 (Nat.le_of_ble_eq_true rfl) (by kernel_rfl) ?_)
    intro W358 HS359
    refine wpList_nil ?_
    refine hK356 _ _ ?_
    refine wp_ret ?_
    refine hret _ _ ?_
    refine ends (v := Value.agg #[.int .i64 vw7, .int .i64 vh8, .slice A333 x332.length c334]) (results1 (q1 := .cell 6 34) (by kernel_rfl) (resN (n := 3) (cs := [.int .i64 vw7, .int .i64 vh8, .slice A333 x332.length c334]) (by kernel_rfl : _ = Value.pointer (some ⟨b11, 0, none⟩)) Try.underlying34 rfl (by kernel_rfl) rfl (HS359.cells 0 3 _ rfl))) (by kernel_rfl) ?_
    have HS360 := HS359.u2
    have HS361 := HS360.u2
    have HS362 := HS361.u3
    have HS363 := HS362.u3
    have HS364 := HS363.drop
    have HS365 := HS364.drop
    injection h with h
    injection h with h0_ h
    subst h0_ h
    exact ⟨f326, A333, c334, s335, rfl, (L30.trans (L37.trans L327)), HS365, HO336⟩
  clear h; have h := hv338; clear hv338
  have HS341 := HS39.cons_nil
  refine loopK (fun n_ a_ w_ => ∃ (f190 : FM) (A198 : Option Addr) (c199 : Nat) (s200 : Seg) (x195 : Int) (x196 : Int) (x197 : List S_Bound) (j194 : Nat → Value), FM.le f36 f190 ∧ St t w_ f190 (s200 :: [(b1, .cells #[.slice A4 s3.L.length c5, .int .i64 x196] 25 (0, 0))] :: [(b17, .cells #[.int .i64 vw7, .int .i64 vh8, .slice A198 x197.length c199] 34 (0, 0))] :: [(b11, .cells #[.int .i64 0, .int .i64 0, .slice none 0 0] 34 (0, 0))] :: H) ∧ Own ty_Bound 44 f190 A198 c199 s200 x197 ∧ spymake_Stream_Field.l0 k vw7 vh8 s3 vt26 vt33 n_ x195 x196 x197 = some o186 ∧ a_ = ⟨#[.pointer (some ⟨b1, 0, none⟩), iV vw7, iV vh8, uV, uV, uV, .pointer (some ⟨b11, 0, none⟩), .pointer (some ⟨b17, 0, none⟩), iV vt26, iV vt33, (j194 0), (j194 1), iV vw7, iV vh8, .agg #[iV vw7, iV vh8, .slice none 0 0], .pointer (some ⟨b1, 0, none⟩), iV vt26, .pointer (some ⟨b1, 0, none⟩), iV vt33, iV vw7, iV vh8, iV (w64 (vw7 * vh8)), iV x195, (j194 2), (j194 3), (j194 4), (j194 5), (j194 6), (j194 7), (j194 8), (j194 9), (j194 10), (j194 11), (j194 12), (j194 13), (j194 14), (j194 15), (j194 16), (j194 17), (j194 18), (j194 19), (j194 20), (j194 21), (j194 22), (j194 23), (j194 24), (j194 25), (j194 26), (j194 27), (j194 28), (j194 29), (j194 30), (j194 31), (j194 32), (j194 33), (j194 34), uV], []⟩) k ⟨f36, none, 0, [], 0, vt34, ([] : List S_Bound), (fun i_ => [undef, undef, undef, undef, undef, undef, undef, undef, undef, undef, undef, undef, undef, undef, undef, undef, undef, undef, undef, undef, undef, undef, undef, undef, undef, undef, undef, undef, undef, undef, undef, undef, undef, undef, undef].getD i_ undef), (FM.le.refl _), HS341, (Own.nil _), h, (by kernel_rfl)⟩ ?_
  clear h
  rintro n189 _ W192 ⟨f190, A198, c199, s200, x195, x196, x197, j194, L191, HS193, HO201, h, rfl⟩ K187 hK188
  obtain _ | n189 := n189
  · exact nomatch h
  simp only [spymake_Stream_Field.l0] at h
  refine wp_seq_k (fun K203 hK204 => ?_)
  refine wp_region_lit ?_
  refine seqS1 (a' := ⟨#[.pointer (some ⟨b1, 0, none⟩), iV vw7, iV vh8, uV, uV, uV, .pointer (some ⟨b11, 0, none⟩), .pointer (some ⟨b17, 0, none⟩), iV vt26, iV vt33, (j194 0), (j194 1), iV vw7, iV vh8, .agg #[iV vw7, iV vh8, .slice none 0 0], .pointer (some ⟨b1, 0, none⟩), iV vt26, .pointer (some ⟨b1, 0, none⟩), iV vt33, iV vw7, iV vh8, iV (w64 (vw7 * vh8)), iV x195, .bool (decide (x195 < (w64 (vw7 * vh8)))), (j194 3), (j194 4), (j194 5), (j194 6), (j194 7), (j194 8), (j194 9), (j194 10), (j194 11), (j194 12), (j194 13), (j194 14), (j194 15), (j194 16), (j194 17), (j194 18), (j194 19), (j194 20), (j194 21), (j194 22), (j194 23), (j194 24), (j194 25), (j194 26), (j194 27), (j194 28), (j194 29), (j194 30), (j194 31), (j194 32), (j194 33), (j194 34), uV], []⟩) (by kernel_rfl) ?_
  refine wpList_nil ?_
  refine hK204 _ _ ?_
  refine wp_seq_k (fun K205 hK206 => ?_)
  have hq_ := ite_some h; clear h; rcases hq_ with ⟨c208, h⟩ | ⟨c208, h⟩
  · have c208 : x195 < (w64 (vw7 * vh8)) := c208
    refine wpRwI 23 (x := (decide (x195 < (w64 (vw7 * vh8))))) (v := true) (by kernel_rfl) (decide_eq_true c208) ?_
    refine condT (by kernel_rfl) ?_
    refine wp_skip ?_
    refine hK206 _ _ ?_
    refine wp_seq_k (fun K209 hK210 => ?_)
    refine blockK (fun B211 hx212 hn213 hr214 ho215 hp216 => ?_)
    refine wp_seq_k (fun K218 hK219 => ?_)
    refine wp_region_lit ?_
    refine seqS2 (a' := ⟨#[.pointer (some ⟨b1, 0, none⟩), iV vw7, iV vh8, uV, uV, uV, .pointer (some ⟨b11, 0, none⟩), .pointer (some ⟨b17, 0, none⟩), iV vt26, iV vt33, iV vt26, (j194 1), iV vw7, iV vh8, .agg #[iV vw7, iV vh8, .slice none 0 0], .pointer (some ⟨b1, 0, none⟩), iV vt26, .pointer (some ⟨b1, 0, none⟩), iV vt33, iV vw7, iV vh8, iV (w64 (vw7 * vh8)), iV x195, .bool true, iV vt26, (j194 4), (j194 5), (j194 6), (j194 7), (j194 8), (j194 9), (j194 10), (j194 11), (j194 12), (j194 13), (j194 14), (j194 15), (j194 16), (j194 17), (j194 18), (j194 19), (j194 20), (j194 21), (j194 22), (j194 23), (j194 24), (j194 25), (j194 26), (j194 27), (j194 28), (j194 29), (j194 30), (j194 31), (j194 32), (j194 33), (j194 34), uV], []⟩) (by kernel_rfl) ?_
    refine wpList_nil ?_
    refine hK219 _ _ ?_
    refine wp_seq_k (fun K220 hK221 => ?_)
    refine wp_seq_k (fun K222 hK223 => ?_)
    refine wp_region_lit ?_
    have HS224 := HS193.u1
    have hq_ := bind_some h; clear h; obtain ⟨⟨vt225, vt226⟩, hc227, h⟩ := hq_
    refine seqL1 (by kernel_rfl) ?_
    refine seqK rfl (does_call (f := 12) (args := #[.pointer (some ⟨b1, 0, none⟩), .int .i64 5]) (by kernel_rfl) (spymake_Stream_Next.calls k b1 A4 c5 (⟨s3.L, x196⟩ : S_Stream) 5 HS224 (HR6.mono (L30.trans (L37.trans L191))) vt225 vt226 hc227) ?_)
    rintro _ W230 ⟨f228, rfl, L229, HS231⟩
    refine ⟨_, rfl, ?_⟩
    refine seqS1 (a' := ⟨#[.pointer (some ⟨b1, 0, none⟩), iV vw7, iV vh8, uV, uV, uV, .pointer (some ⟨b11, 0, none⟩), .pointer (some ⟨b17, 0, none⟩), iV vt26, iV vt33, iV vt26, (j194 1), iV vw7, iV vh8, .agg #[iV vw7, iV vh8, .slice none 0 0], .pointer (some ⟨b1, 0, none⟩), iV vt26, .pointer (some ⟨b1, 0, none⟩), iV vt33, iV vw7, iV vh8, iV (w64 (vw7 * vh8)), iV x195, .bool true, iV vt26, .pointer (some ⟨b1, 0, none⟩), iV vt225, .bool (vt225 == 0), (j194 7), (j194 8), (j194 9), (j194 10), (j194 11), (j194 12), (j194 13), (j194 14), (j194 15), (j194 16), (j194 17), (j194 18), (j194 19), (j194 20), (j194 21), (j194 22), (j194 23), (j194 24), (j194 25), (j194 26), (j194 27), (j194 28), (j194 29), (j194 30), (j194 31), (j194 32), (j194 33), (j194 34), uV], []⟩) (by kernel_rfl) ?_
    refine wpList_nil ?_
    refine hK223 _ _ ?_
    have hq_ := bind_some h; clear h; obtain ⟨v232, hv248, h⟩ := hq_
    have J249 : ∀ (f241 : FM) (light246 : Int) (x247 : Int) (j245 : Nat → Value) (W243 : World) (a_ : Act), FM.le f228 f241 → some ((light246, x247)) = some v232 → St t W243 f241 ([(b1, .cells #[.slice A4 s3.L.length c5, .int .i64 x247] 25 (0, 0))] :: s200 :: [(b17, .cells #[.int .i64 vw7, .int .i64 vh8, .slice A198 x197.length c199] 34 (0, 0))] :: [(b11, .cells #[.int .i64 0, .int .i64 0, .slice none 0 0] 34 (0, 0))] :: H) → a_ = ⟨#[.pointer (some ⟨b1, 0, none⟩), iV vw7, iV vh8, uV, uV, uV, .pointer (some ⟨b11, 0, none⟩), .pointer (some ⟨b17, 0, none⟩), iV vt26, iV vt33, iV light246, (j194 1), iV vw7, iV vh8, .agg #[iV vw7, iV vh8, .slice none 0 0], .pointer (some ⟨b1, 0, none⟩), iV vt26, .pointer (some ⟨b1, 0, none⟩), iV vt33, iV vw7, iV vh8, iV (w64 (vw7 * vh8)), iV x195, .bool true, iV vt26, .pointer (some ⟨b1, 0, none⟩), iV vt225, (j245 0), (j245 1), (j245 2), (j245 3), (j245 4), (j194 11), (j194 12), (j194 13), (j194 14), (j194 15), (j194 16), (j194 17), (j194 18), (j194 19), (j194 20), (j194 21), (j194 22), (j194 23), (j194 24), (j194 25), (j194 26), (j194 27), (j194 28), (j194 29), (j194 30), (j194 31), (j194 32), (j194 33), (j194 34), uV], []⟩ → K220 a_ W243 := by
      intro f241 light246 x247 j245 W243 a_ L242 hj250 HS244  hfr_; subst hfr_
      injection hj250 with hj250; subst hj250; try dsimp only at h
      refine hK221 _ _ ?_
      refine wp_seq_k (fun K251 hK252 => ?_)
      refine wp_region_lit ?_
      have hq_ := bind_some h; clear h; obtain ⟨⟨vt253, vt254⟩, hc255, h⟩ := hq_
      refine seqL4 (by kernel_rfl) ?_
      refine seqK rfl (does_call (f := 12) (args := #[.pointer (some ⟨b1, 0, none⟩), .int .i64 (w64 (vt33 + 1))]) (by kernel_rfl) (spymake_Stream_Next.calls k b1 A4 c5 (⟨s3.L, x247⟩ : S_Stream) (w64 (vt33 + 1)) HS244 (HR6.mono (L30.trans (L37.trans (L191.trans (L229.trans L242))))) vt253 vt254 hc255) ?_)
      rintro _ W258 ⟨f256, rfl, L257, HS259⟩
      refine ⟨_, rfl, ?_⟩
      have hq_ := bind_some h; clear h; obtain ⟨⟨vt260, vt261⟩, hc262, h⟩ := hq_
      refine seqL5 (by kernel_rfl) ?_
      refine seqK rfl (does_call (f := 12) (args := #[.pointer (some ⟨b1, 0, none⟩), .int .i64 (w64 (vt33 + 1))]) (by kernel_rfl) (spymake_Stream_Next.calls k b1 A4 c5 (⟨s3.L, vt254⟩ : S_Stream) (w64 (vt33 + 1)) HS259 (HR6.mono (L30.trans (L37.trans (L191.trans (L229.trans (L242.trans L257)))))) vt260 vt261 hc262) ?_)
      rintro _ W265 ⟨f263, rfl, L264, HS266⟩
      refine ⟨_, rfl, ?_⟩
      refine seqL2 (by kernel_rfl) ?_
      refine seqK rfl (does_alloc (z := Value.agg #[.int .i64 0, .int .i64 0, .bool false]) (cs := #[.int .i64 0, .int .i64 0, .bool false]) rfl (by kernel_rfl) rfl HS266 ?_)
      intro b267 W268 HS269
      refine seqK rfl (does_store (n := 3) (vs := [.int .i64 (w64 (light246 - vt253)), .int .i64 (w64 (light246 + vt260)), .bool false]) (cs' := #[.int .i64 (w64 (light246 - vt253)), .int .i64 (w64 (light246 + vt260)), .bool false]) rfl (by kernel_rfl) (by kernel_rfl : _ = Value.pointer (some ⟨b267, 0, none⟩)) (by kernel_rfl : _ = Value.agg #[.int .i64 (w64 (light246 - vt253)), .int .i64 (w64 (light246 + vt260)), .bool false]) rfl rfl (by intro u_ hu_; simp only [List.mem_cons, List.not_mem_nil, or_false] at hu_; rcases hu_ with rfl | rfl | rfl <;> rfl) HS269 (Nat.le_of_ble_eq_true rfl) (by kernel_rfl) ?_)
      intro W271 HS272
      refine wpList_nil ?_
      refine hK252 _ _ ?_
      refine wp_seq_k (fun K273 hK274 => ?_)
      refine wp_seq_k (fun K275 hK276 => ?_)
      refine wp_region_lit ?_
      have HS277 := HS272.u1
      have hq_ := bind_some h; clear h; obtain ⟨⟨vt278, vt279⟩, hc280, h⟩ := hq_
      refine seqL1 (by kernel_rfl) ?_
      refine seqK rfl (does_call (f := 12) (args := #[.pointer (some ⟨b1, 0, none⟩), .int .i64 15]) (by kernel_rfl) (spymake_Stream_Next.calls k b1 A4 c5 (⟨s3.L, vt261⟩ : S_Stream) 15 HS277 (HR6.mono (L30.trans (L37.trans (L191.trans (L229.trans (L242.trans (L257.trans L264))))))) vt278 vt279 hc280) ?_)
      rintro _ W283 ⟨f281, rfl, L282, HS284⟩
      refine ⟨_, rfl, ?_⟩
      refine seqS1 (a' := ⟨#[.pointer (some ⟨b1, 0, none⟩), iV vw7, iV vh8, uV, uV, uV, .pointer (some ⟨b11, 0, none⟩), .pointer (some ⟨b17, 0, none⟩), iV vt26, iV vt33, iV light246, .pointer (some ⟨b267, 0, none⟩), iV vw7, iV vh8, .agg #[iV vw7, iV vh8, .slice none 0 0], .pointer (some ⟨b1, 0, none⟩), iV vt26, .pointer (some ⟨b1, 0, none⟩), iV vt33, iV vw7, iV vh8, iV (w64 (vw7 * vh8)), iV x195, .bool true, iV vt26, .pointer (some ⟨b1, 0, none⟩), iV vt225, (j245 0), (j245 1), (j245 2), (j245 3), (j245 4), iV light246, .pointer (some ⟨b1, 0, none⟩), iV vt33, iV (w64 (vt33 + 1)), iV vt253, iV (w64 (light246 - vt253)), iV light246, .pointer (some ⟨b1, 0, none⟩), iV vt33, iV (w64 (vt33 + 1)), iV vt260, iV (w64 (light246 + vt260)), .agg #[iV (w64 (light246 - vt253)), iV (w64 (light246 + vt260)), .bool false], .pointer (some ⟨b1, 0, none⟩), iV vt278, .bool (vt278 == 0), (j194 27), (j194 28), (j194 29), (j194 30), (j194 31), (j194 32), (j194 33), (j194 34), uV], []⟩) (by kernel_rfl) ?_
      refine wpList_nil ?_
      refine hK276 _ _ ?_
      have hq_ := ite_some h; clear h; rcases hq_ with ⟨c286, h⟩ | ⟨c286, h⟩
      · have c286 : vt278 = 0 := c286
        refine wpRwI 47 (x := (vt278 == 0)) (v := true) (by kernel_rfl) (beq_iff_eq.mpr c286) ?_
        refine condT (by kernel_rfl) ?_
        refine wp_region_lit ?_
        have HS287 := HS284.u1
        refine seqL1 (by kernel_rfl) ?_
        refine seqK rfl (does_store (n := 3) (vs := [.int .i64 0, .int .i64 0, .bool true]) (cs' := #[.int .i64 0, .int .i64 0, .bool true]) rfl (by kernel_rfl) (by kernel_rfl : _ = Value.pointer (some ⟨b267, 0, none⟩)) (by kernel_rfl : _ = Value.agg #[.int .i64 0, .int .i64 0, .bool true]) rfl rfl (by intro u_ hu_; simp only [List.mem_cons, List.not_mem_nil, or_false] at hu_; rcases hu_ with rfl | rfl | rfl <;> rfl) HS287 (Nat.le_of_ble_eq_true rfl) (by kernel_rfl) ?_)
        intro W288 HS289
        refine wpList_nil ?_
        refine hK274 _ _ ?_
        refine wp_region_lit ?_
        refine seqL1 (by kernel_rfl) ?_
        refine seqK rfl (does_run (run_load rfl Try.underlying32 rfl (by kernel_rfl : _ = Value.pointer (some ⟨b17, 2, none⟩)) (HS289.u3.cell 2)) ?_)
        refine seqK rfl (does_run (run_loadN (n := 3) rfl Try.underlying44 rfl (by kernel_rfl) (by kernel_rfl : _ = Value.pointer (some ⟨b267, 0, none⟩)) (cs := [.int .i64 0, .int .i64 0, .bool true]) rfl (HS289.cells 0 3 _ rfl)) ?_)
        refine seqK rfl (does_lit (e := ty_Bound) (E := 44) (vs := #[(0, Value.agg #[.int .i64 0, .int .i64 0, .bool true])]) (cs := #[.int .i64 0, .int .i64 0, .bool true]) (xs := ([(⟨0, 0, true⟩ : S_Bound)] : List S_Bound)) rfl Try.underlying32 (by kernel_rfl) (by kernel_rfl) ⟨[.int .i64 0, .int .i64 0, .bool true], _, rfl, rfl, rfl⟩ rfl HS289 ?_ (by decide))
        intro b290 W291 s292 HS293 _ HO294
        have hq_ := guard_some h; clear h; obtain ⟨c296, h⟩ := hq_
        have c296 : (x197.length + 1) * 24 ≤ 140737488355328 := c296
        have HS297 := HS293.u3
        have HS298 := HS297.u1
        refine seqK rfl (does_append1 (e := ty_Bound) (E := 44) (xs := x197) (ys := ([(⟨0, 0, true⟩ : S_Bound)] : List S_Bound)) rfl (by kernel_rfl : _ = Value.slice A198 x197.length c199) (by kernel_rfl : _ = Value.slice (some ⟨b290, 0, none⟩) ([(⟨0, 0, true⟩ : S_Bound)] : List S_Bound).length 1) Try.underlying32 inf44 (HO201.mono (L229.trans (L242.trans (L257.trans (L264.trans L282))))) HO294 HS298 c296 (lim63 c296 (by decide)) ?_)
        intro A299 c300 s301 W302 HS303 HO304
        have HS305 := HS303.u3
        refine seqL1 (by kernel_rfl) ?_
        refine seqK rfl (does_store (n := 1) (vs := [.slice A299 (x197 ++ ([(⟨0, 0, true⟩ : S_Bound)] : List S_Bound)).length c300]) (cs' := #[.int .i64 vw7, .int .i64 vh8, .slice A299 (x197 ++ ([(⟨0, 0, true⟩ : S_Bound)] : List S_Bound)).length c300]) rfl (by kernel_rfl) (by kernel_rfl : _ = Value.pointer (some ⟨b17, 2, none⟩)) (by kernel_rfl : _ = Value.slice A299 (x197 ++ ([(⟨0, 0, true⟩ : S_Bound)] : List S_Bound)).length c300) rfl rfl (by intro u_ hu_; simp only [List.mem_cons, List.not_mem_nil, or_false] at hu_; subst hu_; rfl) HS305 (Nat.le_of_ble_eq_true rfl) (by kernel_rfl) ?_)
        intro W306 HS307
        refine wpList_nil ?_
        refine hn213 _ _ ?_
        refine hK210 _ _ ?_
        refine wp_region_lit ?_
        refine seqS2 (a' := ⟨#[.pointer (some ⟨b1, 0, none⟩), iV vw7, iV vh8, uV, uV, uV, .pointer (some ⟨b11, 0, none⟩), .pointer (some ⟨b17, 0, none⟩), iV vt26, iV vt33, iV light246, .pointer (some ⟨b267, 0, none⟩), iV vw7, iV vh8, .agg #[iV vw7, iV vh8, .slice none 0 0], .pointer (some ⟨b1, 0, none⟩), iV vt26, .pointer (some ⟨b1, 0, none⟩), iV vt33, iV vw7, iV vh8, iV (w64 (vw7 * vh8)), iV (w64 (x195 + 1)), .bool true, iV vt26, .pointer (some ⟨b1, 0, none⟩), iV vt225, (j245 0), (j245 1), (j245 2), (j245 3), (j245 4), iV light246, .pointer (some ⟨b1, 0, none⟩), iV vt33, iV (w64 (vt33 + 1)), iV vt253, iV (w64 (light246 - vt253)), iV light246, .pointer (some ⟨b1, 0, none⟩), iV vt33, iV (w64 (vt33 + 1)), iV vt260, iV (w64 (light246 + vt260)), .agg #[iV (w64 (light246 - vt253)), iV (w64 (light246 + vt260)), .bool false], .pointer (some ⟨b1, 0, none⟩), iV vt278, .bool true, .agg #[iV 0, iV 0, .bool true], .pointer (some ⟨b17, 2, none⟩), .slice A198 x197.length c199, .agg #[iV 0, iV 0, .bool true], .slice (some ⟨b290, 0, none⟩) ([(⟨0, 0, true⟩ : S_Bound)] : List S_Bound).length 1, .slice A299 (x197 ++ ([(⟨0, 0, true⟩ : S_Bound)] : List S_Bound)).length c300, .pointer (some ⟨b17, 2, none⟩), iV (w64 (x195 + 1)), uV], []⟩) (by kernel_rfl) ?_
        refine wpList_nil ?_
        refine hK188 n189 _ _ (Nat.lt_succ_self _) ?_
        have HS343 := HS307.u4
        have HS344 := HS343.u1
        have HS345 := HS344.u4
        have HS346 := HS345.u3
        have HS347 := HS346.u4
        have HS348 := HS347.drop
        exact ⟨f281, A299, c300, s301, (w64 (x195 + 1)), vt279, (x197 ++ ([(⟨0, 0, true⟩ : S_Bound)] : List S_Bound)), (fun i_ => [Value.int .i64 light246, Value.pointer (some ⟨b267, 0, none⟩), Value.bool true, Value.int .i64 vt26, Value.pointer (some ⟨b1, 0, none⟩), Value.int .i64 vt225, (j245 0), (j245 1), (j245 2), (j245 3), (j245 4), Value.int .i64 light246, Value.pointer (some ⟨b1, 0, none⟩), Value.int .i64 vt33, Value.int .i64 (w64 (vt33 + 1)), Value.int .i64 vt253, Value.int .i64 (w64 (light246 - vt253)), Value.int .i64 light246, Value.pointer (some ⟨b1, 0, none⟩), Value.int .i64 vt33, Value.int .i64 (w64 (vt33 + 1)), Value.int .i64 vt260, Value.int .i64 (w64 (light246 + vt260)), Value.agg #[.int .i64 (w64 (light246 - vt253)), .int .i64 (w64 (light246 + vt260)), .bool false], Value.pointer (some ⟨b1, 0, none⟩), Value.int .i64 vt278, Value.bool true, Value.agg #[.int .i64 0, .int .i64 0, .bool true], Value.pointer (some ⟨b17, 2, none⟩), Value.slice A198 x197.length c199, Value.agg #[.int .i64 0, .int .i64 0, .bool true], Value.slice (some ⟨b290, 0, none⟩) ([(⟨0, 0, true⟩ : S_Bound)] : List S_Bound).length 1, Value.slice A299 (x197 ++ ([(⟨0, 0, true⟩ : S_Bound)] : List S_Bound)).length c300, Value.pointer (some ⟨b17, 2, none⟩), Value.int .i64 (w64 (x195 + 1))].getD i_ undef), (L191.trans (L229.trans (L242.trans (L257.trans (L264.trans L282))))), HS348, HO304, h, (by kernel_rfl)⟩
      · have c286 : ¬ (vt278 = 0) := c286
        refine wpRwI 47 (x := (vt278 == 0)) (v := false) (by kernel_rfl) (beq_eq_false_iff_ne.mpr c286) ?_
        refine condF (by kernel_rfl) ?_
        refine wp_skip ?_
        refine hK274 _ _ ?_
        refine wp_region_lit ?_
        refine seqL1 (by kernel_rfl) ?_
        refine seqK rfl (does_run (run_load rfl Try.underlying32 rfl (by kernel_rfl : _ = Value.pointer (some ⟨b17, 2, none⟩)) (HS284.u3.cell 2)) ?_)
        refine seqK rfl (does_run (run_loadN (n := 3) rfl Try.underlying44 rfl (by kernel_rfl) (by kernel_rfl : _ = Value.pointer (some ⟨b267, 0, none⟩)) (cs := [.int .i64 (w64 (light246 - vt253)), .int .i64 (w64 (light246 + vt260)), .bool false]) rfl (HS284.u1.cells 0 3 _ rfl)) ?_)
        refine seqK rfl (does_lit (e := ty_Bound) (E := 44) (vs := #[(0, Value.agg #[.int .i64 (w64 (light246 - vt253)), .int .i64 (w64 (light246 + vt260)), .bool false])]) (cs := #[.int .i64 (w64 (light246 - vt253)), .int .i64 (w64 (light246 + vt260)), .bool false]) (xs := ([(⟨w64 (light246 - vt253), w64 (light246 + vt260), false⟩ : S_Bound)] : List S_Bound)) rfl Try.underlying32 (by kernel_rfl) (by kernel_rfl) ⟨[.int .i64 (w64 (light246 - vt253)), .int .i64 (w64 (light246 + vt260)), .bool false], _, rfl, rfl, rfl⟩ rfl HS284 ?_ (by decide))
        intro b308 W309 s310 HS311 _ HO312
        have hq_ := guard_some h; clear h; obtain ⟨c314, h⟩ := hq_
        have c314 : (x197.length + 1) * 24 ≤ 140737488355328 := c314
        have HS315 := HS311.u3
        have HS316 := HS315.u1
        refine seqK rfl (does_append1 (e := ty_Bound) (E := 44) (xs := x197) (ys := ([(⟨w64 (light246 - vt253), w64 (light246 + vt260), false⟩ : S_Bound)] : List S_Bound)) rfl (by kernel_rfl : _ = Value.slice A198 x197.length c199) (by kernel_rfl : _ = Value.slice (some ⟨b308, 0, none⟩) ([(⟨w64 (light246 - vt253), w64 (light246 + vt260), false⟩ : S_Bound)] : List S_Bound).length 1) Try.underlying32 inf44 (HO201.mono (L229.trans (L242.trans (L257.trans (L264.trans L282))))) HO312 HS316 c314 (lim63 c314 (by decide)) ?_)
        intro A317 c318 s319 W320 HS321 HO322
        have HS323 := HS321.u3
        refine seqL1 (by kernel_rfl) ?_
        refine seqK rfl (does_store (n := 1) (vs := [.slice A317 (x197 ++ ([(⟨w64 (light246 - vt253), w64 (light246 + vt260), false⟩ : S_Bound)] : List S_Bound)).length c318]) (cs' := #[.int .i64 vw7, .int .i64 vh8, .slice A317 (x197 ++ ([(⟨w64 (light246 - vt253), w64 (light246 + vt260), false⟩ : S_Bound)] : List S_Bound)).length c318]) rfl (by kernel_rfl) (by kernel_rfl : _ = Value.pointer (some ⟨b17, 2, none⟩)) (by kernel_rfl : _ = Value.slice A317 (x197 ++ ([(⟨w64 (light246 - vt253), w64 (light246 + vt260), false⟩ : S_Bound)] : List S_Bound)).length c318) rfl rfl (by intro u_ hu_; simp only [List.mem_cons, List.not_mem_nil, or_false] at hu_; subst hu_; rfl) HS323 (Nat.le_of_ble_eq_true rfl) (by kernel_rfl) ?_)
        intro W324 HS325
        refine wpList_nil ?_
        refine hn213 _ _ ?_
        refine hK210 _ _ ?_
        refine wp_region_lit ?_
        refine seqS2 (a' := ⟨#[.pointer (some ⟨b1, 0, none⟩), iV vw7, iV vh8, uV, uV, uV, .pointer (some ⟨b11, 0, none⟩), .pointer (some ⟨b17, 0, none⟩), iV vt26, iV vt33, iV light246, .pointer (some ⟨b267, 0, none⟩), iV vw7, iV vh8, .agg #[iV vw7, iV vh8, .slice none 0 0], .pointer (some ⟨b1, 0, none⟩), iV vt26, .pointer (some ⟨b1, 0, none⟩), iV vt33, iV vw7, iV vh8, iV (w64 (vw7 * vh8)), iV (w64 (x195 + 1)), .bool true, iV vt26, .pointer (some ⟨b1, 0, none⟩), iV vt225, (j245 0), (j245 1), (j245 2), (j245 3), (j245 4), iV light246, .pointer (some ⟨b1, 0, none⟩), iV vt33, iV (w64 (vt33 + 1)), iV vt253, iV (w64 (light246 - vt253)), iV light246, .pointer (some ⟨b1, 0, none⟩), iV vt33, iV (w64 (vt33 + 1)), iV vt260, iV (w64 (light246 + vt260)), .agg #[iV (w64 (light246 - vt253)), iV (w64 (light246 + vt260)), .bool false], .pointer (some ⟨b1, 0, none⟩), iV vt278, .bool false, (j194 27), .pointer (some ⟨b17, 2, none⟩), .slice A198 x197.length c199, .agg #[iV (w64 (light246 - vt253)), iV (w64 (light246 + vt260)), .bool false], .slice (some ⟨b308, 0, none⟩) ([(⟨w64 (light246 - vt253), w64 (light246 + vt260), false⟩ : S_Bound)] : List S_Bound).length 1, .slice A317 (x197 ++ ([(⟨w64 (light246 - vt253), w64 (light246 + vt260), false⟩ : S_Bound)] : List S_Bound)).length c318, .pointer (some ⟨b17, 2, none⟩), iV (w64 (x195 + 1)), uV], []⟩) (by kernel_rfl) ?_
        refine wpList_nil ?_
        refine hK188 n189 _ _ (Nat.lt_succ_self _) ?_
        have HS349 := HS325.u4
        have HS350 := HS349.u1
        have HS351 := HS350.u3
        have HS352 := HS351.u3
        have HS353 := HS352.u4
        have HS354 := HS353.drop
        exact ⟨f281, A317, c318, s319, (w64 (x195 + 1)), vt279, (x197 ++ ([(⟨w64 (light246 - vt253), w64 (light246 + vt260), false⟩ : S_Bound)] : List S_Bound)), (fun i_ => [Value.int .i64 light246, Value.pointer (some ⟨b267, 0, none⟩), Value.bool true, Value.int .i64 vt26, Value.pointer (some ⟨b1, 0, none⟩), Value.int .i64 vt225, (j245 0), (j245 1), (j245 2), (j245 3), (j245 4), Value.int .i64 light246, Value.pointer (some ⟨b1, 0, none⟩), Value.int .i64 vt33, Value.int .i64 (w64 (vt33 + 1)), Value.int .i64 vt253, Value.int .i64 (w64 (light246 - vt253)), Value.int .i64 light246, Value.pointer (some ⟨b1, 0, none⟩), Value.int .i64 vt33, Value.int .i64 (w64 (vt33 + 1)), Value.int .i64 vt260, Value.int .i64 (w64 (light246 + vt260)), Value.agg #[.int .i64 (w64 (light246 - vt253)), .int .i64 (w64 (light246 + vt260)), .bool false], Value.pointer (some ⟨b1, 0, none⟩), Value.int .i64 vt278, Value.bool false, (j194 27), Value.pointer (some ⟨b17, 2, none⟩), Value.slice A198 x197.length c199, Value.agg #[.int .i64 (w64 (light246 - vt253)), .int .i64 (w64 (light246 + vt260)), .bool false], Value.slice (some ⟨b308, 0, none⟩) ([(⟨w64 (light246 - vt253), w64 (light246 + vt260), false⟩ : S_Bound)] : List S_Bound).length 1, Value.slice A317 (x197 ++ ([(⟨w64 (light246 - vt253), w64 (light246 + vt260), false⟩ : S_Bound)] : List S_Bound)).length c318, Value.pointer (some ⟨b17, 2, none⟩), Value.int .i64 (w64 (x195 + 1))].getD i_ undef), (L191.trans (L229.trans (L242.trans (L257.trans (L264.trans L282))))), HS354, HO322, h, (by kernel_rfl)⟩
    clear h; have h := hv248; clear hv248
    have hq_ := ite_some h; clear h; rcases hq_ with ⟨c233, h⟩ | ⟨c233, h⟩
    · have c233 : vt225 = 0 := c233
      refine wpRwI 27 (x := (vt225 == 0)) (v := true) (by kernel_rfl) (beq_iff_eq.mpr c233) ?_
      refine condT (by kernel_rfl) ?_
      refine wp_region_lit ?_
      have hq_ := bind_some h; clear h; obtain ⟨⟨vt234, vt235⟩, hc236, h⟩ := hq_
      refine seqL2 (by kernel_rfl) ?_
      refine seqK rfl (does_call (f := 12) (args := #[.pointer (some ⟨b1, 0, none⟩), .int .i64 2000]) (by kernel_rfl) (spymake_Stream_Next.calls k b1 A4 c5 (⟨s3.L, vt226⟩ : S_Stream) 2000 HS231 (HR6.mono (L30.trans (L37.trans (L191.trans L229)))) vt234 vt235 hc236) ?_)
      rintro _ W239 ⟨f237, rfl, L238, HS240⟩
      refine ⟨_, rfl, ?_⟩
      refine seqS2 (a' := ⟨#[.pointer (some ⟨b1, 0, none⟩), iV vw7, iV vh8, uV, uV, uV, .pointer (some ⟨b11, 0, none⟩), .pointer (some ⟨b17, 0, none⟩), iV vt26, iV vt33, iV (w64 (vt26 + vt234)), (j194 1), iV vw7, iV vh8, .agg #[iV vw7, iV vh8, .slice none 0 0], .pointer (some ⟨b1, 0, none⟩), iV vt26, .pointer (some ⟨b1, 0, none⟩), iV vt33, iV vw7, iV vh8, iV (w64 (vw7 * vh8)), iV x195, .bool true, iV vt26, .pointer (some ⟨b1, 0, none⟩), iV vt225, .bool true, iV vt26, .pointer (some ⟨b1, 0, none⟩), iV vt234, iV (w64 (vt26 + vt234)), (j194 11), (j194 12), (j194 13), (j194 14), (j194 15), (j194 16), (j194 17), (j194 18), (j194 19), (j194 20), (j194 21), (j194 22), (j194 23), (j194 24), (j194 25), (j194 26), (j194 27), (j194 28), (j194 29), (j194 30), (j194 31), (j194 32), (j194 33), (j194 34), uV], []⟩) (by kernel_rfl) ?_
      refine wpList_nil ?_
      exact J249 f237 (w64 (vt26 + vt234)) vt235 (fun i_ => [Value.bool true, Value.int .i64 vt26, Value.pointer (some ⟨b1, 0, none⟩), Value.int .i64 vt234, Value.int .i64 (w64 (vt26 + vt234))].getD i_ undef) W239 _ L238 h HS240 (by kernel_rfl)
    · have c233 : ¬ (vt225 = 0) := c233
      refine wpRwI 27 (x := (vt225 == 0)) (v := false) (by kernel_rfl) (beq_eq_false_iff_ne.mpr c233) ?_
      refine condF (by kernel_rfl) ?_
      refine wp_skip ?_
      exact J249 f228 vt26 vt226 (fun i_ => [Value.bool false, (j194 7), (j194 8), (j194 9), (j194 10)].getD i_ undef) W230 _ (FM.le.refl _) h HS231 (by kernel_rfl)
  · have c208 : ¬ (x195 < (w64 (vw7 * vh8))) := c208
    refine wpRwI 23 (x := (decide (x195 < (w64 (vw7 * vh8))))) (v := false) (by kernel_rfl) (decide_eq_false c208) ?_
    refine condF (by kernel_rfl) ?_
    refine wp_exit ?_
    refine hx45 _ _ ?_
    exact J339 f190 A198 c199 s200 x196 x197 (fun i_ => [(j194 0), (j194 1), Value.int .i64 x195, Value.bool false, (j194 3), (j194 4), (j194 5), (j194 6), (j194 7), (j194 8), (j194 9), (j194 10), (j194 11), (j194 12), (j194 13), (j194 14), (j194 15), (j194 16), (j194 17), (j194 18), (j194 19), (j194 20), (j194 21), (j194 22), (j194 23), (j194 24), (j194 25), (j194 26), (j194 27), (j194 28), (j194 29), (j194 30), (j194 31), (j194 32), (j194 33), (j194 34)].getD i_ undef) W192 _ L191 h HS193 HO201 (by kernel_rfl)

set_option maxRecDepth 100000 in
set_option maxHeartbeats 4000000 in
theorem bound_Check_Quanta.calls (k : Nat)  (b1 : S_Bound) {t w : World} {f : FM} {H : List Seg} (HS : St t w f (H)) (r1 : Int) (h : bound_Check_Quanta k b1 = some r1) :
    Calls Try.prog 71 #[.agg #[.int .i64 b1.Lo, .int .i64 b1.Hi, .bool b1.Unknown]] w (fun e w' => ∃ (g : FM), e = .returned (Value.int .i64 r1) ∧ FM.le f g ∧ St t w' g (H)) := by
  unfold bound_Check_Quanta at h
  refine enter Try.func71 rfl (tm := #[.agg #[iV b1.Lo, iV b1.Hi, .bool b1.Unknown], uV, uV, uV, uV, uV, uV, uV, uV, uV, uV, uV, uV, uV, uV, uV, uV, uV, uV, uV, uV, uV, uV, uV, uV, uV, uV, uV, uV, uV, uV, uV, uV, uV, uV, uV, uV]) (by kernel_rfl) ?_
  intro B hret hnor hnp
  refine wp_seq_k (fun K2 hK3 => ?_)
  refine wp_region_lit ?_
  refine seqK rfl (does_box (cs := #[.int .i64 b1.Lo, .int .i64 b1.Hi, .bool b1.Unknown]) rfl (by kernel_rfl : _ = Value.agg #[.int .i64 b1.Lo, .int .i64 b1.Hi, .bool b1.Unknown]) rfl HS ?_)
  intro b4 W5 HS6
  refine seqS1 (a' := ⟨#[.agg #[iV b1.Lo, iV b1.Hi, .bool b1.Unknown], .pointer (some ⟨b4, 0, none⟩), iV 0, uV, uV, uV, uV, uV, uV, uV, uV, uV, uV, uV, uV, uV, uV, uV, uV, uV, uV, uV, uV, uV, uV, uV, uV, uV, uV, uV, uV, uV, uV, uV, uV, uV, uV], []⟩) (by kernel_rfl) ?_
  refine wpList_nil ?_
  refine hK3 _ _ ?_
  refine wp_seq_k (fun K8 hK9 => ?_)
  refine blockK (fun B10 hx11 hn12 hr13 ho14 hp15 => ?_)
  refine wp_seq_k (fun K17 hK18 => ?_)
  refine wp_region_lit ?_
  refine seqL1 (by kernel_rfl) ?_
  refine seqK rfl (does_run (run_load rfl Try.underlying4 rfl (by kernel_rfl : _ = Value.pointer (some ⟨b4, 2, none⟩)) (HS6.cell 2)) ?_)
  refine seqS1 (a' := ⟨#[.agg #[iV b1.Lo, iV b1.Hi, .bool b1.Unknown], .pointer (some ⟨b4, 0, none⟩), iV 0, uV, .pointer (some ⟨b4, 2, none⟩), .bool b1.Unknown, .bool b1.Unknown, uV, uV, uV, uV, uV, uV, uV, uV, uV, uV, uV, uV, uV, uV, uV, uV, uV, uV, uV, uV, uV, uV, uV, uV, uV, uV, uV, uV, uV, uV], []⟩) (by kernel_rfl) ?_
  have hq_ := ite_some h; clear h; rcases hq_ with ⟨c19, h⟩ | ⟨c19, h⟩
  · have c19 : b1.Unknown = true := c19
    refine seqRwI 5 (x := b1.Unknown) (v := true) (by kernel_rfl) c19 ?_
    refine seqRwI 6 (x := b1.Unknown) (v := true) (by kernel_rfl) c19 ?_
    refine seqL1 (by kernel_rfl) ?_
    refine seqG (by kernel_rfl) (does_run (run_load rfl Try.underlying42 rfl (by kernel_rfl : _ = Value.pointer (some ⟨b4, 0, none⟩)) (HS6.cell 0)) ?_)
    refine seqS2 (a' := ⟨#[.agg #[iV b1.Lo, iV b1.Hi, .bool b1.Unknown], .pointer (some ⟨b4, 0, none⟩), iV 0, uV, .pointer (some ⟨b4, 2, none⟩), .bool true, .bool true, .pointer (some ⟨b4, 0, none⟩), iV b1.Lo, .bool (b1.Lo != 0), .bool (b1.Lo != 0), uV, uV, uV, uV, uV, uV, uV, uV, uV, uV, uV, uV, uV, uV, uV, uV, uV, uV, uV, uV, uV, uV, uV, uV, uV, uV], []⟩) (by kernel_rfl) ?_
    have hq_ := ite_some h; clear h; rcases hq_ with ⟨c20, h⟩ | ⟨c20, h⟩
    · have c20 : b1.Lo ≠ 0 := c20
      refine seqRwI 9 (x := (b1.Lo != 0)) (v := true) (by kernel_rfl) (bne_iff_ne.mpr c20) ?_
      refine seqRwI 10 (x := (b1.Lo != 0)) (v := true) (by kernel_rfl) (bne_iff_ne.mpr c20) ?_
      refine seqS6 (a' := ⟨#[.agg #[iV b1.Lo, iV b1.Hi, .bool b1.Unknown], .pointer (some ⟨b4, 0, none⟩), iV 0, .bool true, .pointer (some ⟨b4, 2, none⟩), .bool true, .bool true, .pointer (some ⟨b4, 0, none⟩), iV b1.Lo, .bool true, .bool true, uV, uV, uV, .bool true, .bool true, uV, uV, uV, uV, uV, uV, uV, uV, uV, uV, uV, uV, uV, uV, uV, uV, uV, uV, uV, uV, uV], []⟩) (by kernel_rfl) ?_
      refine wpList_nil ?_
      refine hK18 _ _ ?_
      refine condT (by kernel_rfl) ?_
      refine wp_seq_k (fun K21 hK22 => ?_)
      refine wp_region_lit ?_
      refine seqS1 (a' := ⟨#[.agg #[iV b1.Lo, iV b1.Hi, .bool b1.Unknown], .pointer (some ⟨b4, 0, none⟩), iV 3, .bool true, .pointer (some ⟨b4, 2, none⟩), .bool true, .bool true, .pointer (some ⟨b4, 0, none⟩), iV b1.Lo, .bool true, .bool true, uV, uV, uV, .bool true, .bool true, uV, uV, uV, uV, uV, uV, uV, uV, uV, uV, uV, uV, uV, uV, uV, uV, uV, uV, uV, uV, uV], []⟩) (by kernel_rfl) ?_
      refine wpList_nil ?_
      refine hK22 _ _ ?_
      refine wp_ret ?_
      refine hr13 _ _ ?_
      refine hret _ _ ?_
      refine ends_still (v := Value.int .i64 3) (by kernel_rfl) (by kernel_rfl) ?_
      have HS61 := HS6.drop
      injection h with h
      subst h
      exact ⟨f, rfl, FM.le.refl _, HS61⟩
    · have c20 : ¬ (b1.Lo ≠ 0) := c20
      refine seqRwI 9 (x := (b1.Lo != 0)) (v := false) (by kernel_rfl) (bne_eq_false_iff_eq.mpr (Decidable.of_not_not c20)) ?_
      refine seqRwI 10 (x := (b1.Lo != 0)) (v := false) (by kernel_rfl) (bne_eq_false_iff_eq.mpr (Decidable.of_not_not c20)) ?_
      refine seqL1 (by kernel_rfl) ?_
      refine seqG (by kernel_rfl) (does_run (run_load rfl Try.underlying42 rfl (by kernel_rfl : _ = Value.pointer (some ⟨b4, 1, none⟩)) (HS6.cell 1)) ?_)
      refine seqS4 (a' := ⟨#[.agg #[iV b1.Lo, iV b1.Hi, .bool b1.Unknown], .pointer (some ⟨b4, 0, none⟩), iV 0, .bool (b1.Hi != 0), .pointer (some ⟨b4, 2, none⟩), .bool true, .bool true, .pointer (some ⟨b4, 0, none⟩), iV b1.Lo, .bool false, .bool false, .pointer (some ⟨b4, 1, none⟩), iV b1.Hi, .bool (b1.Hi != 0), .bool (b1.Hi != 0), .bool (b1.Hi != 0), uV, uV, uV, uV, uV, uV, uV, uV, uV, uV, uV, uV, uV, uV, uV, uV, uV, uV, uV, uV, uV], []⟩) (by kernel_rfl) ?_
      refine wpList_nil ?_
      refine hK18 _ _ ?_
      have hq_ := ite_some h; clear h; rcases hq_ with ⟨c24, h⟩ | ⟨c24, h⟩
      · have c24 : b1.Hi ≠ 0 := c24
        refine wpRwI 3 (x := (b1.Hi != 0)) (v := true) (by kernel_rfl) (bne_iff_ne.mpr c24) ?_
        refine wpRwI 13 (x := (b1.Hi != 0)) (v := true) (by kernel_rfl) (bne_iff_ne.mpr c24) ?_
        refine wpRwI 14 (x := (b1.Hi != 0)) (v := true) (by kernel_rfl) (bne_iff_ne.mpr c24) ?_
        refine wpRwI 15 (x := (b1.Hi != 0)) (v := true) (by kernel_rfl) (bne_iff_ne.mpr c24) ?_
        refine condT (by kernel_rfl) ?_
        refine wp_seq_k (fun K25 hK26 => ?_)
        refine wp_region_lit ?_
        refine seqS1 (a' := ⟨#[.agg #[iV b1.Lo, iV b1.Hi, .bool b1.Unknown], .pointer (some ⟨b4, 0, none⟩), iV 3, .bool true, .pointer (some ⟨b4, 2, none⟩), .bool true, .bool true, .pointer (some ⟨b4, 0, none⟩), iV b1.Lo, .bool false, .bool false, .pointer (some ⟨b4, 1, none⟩), iV b1.Hi, .bool true, .bool true, .bool true, uV, uV, uV, uV, uV, uV, uV, uV, uV, uV, uV, uV, uV, uV, uV, uV, uV, uV, uV, uV, uV], []⟩) (by kernel_rfl) ?_
        refine wpList_nil ?_
        refine hK26 _ _ ?_
        refine wp_ret ?_
        refine hr13 _ _ ?_
        refine hret _ _ ?_
        refine ends_still (v := Value.int .i64 3) (by kernel_rfl) (by kernel_rfl) ?_
        have HS62 := HS6.drop
        injection h with h
        subst h
        exact ⟨f, rfl, FM.le.refl _, HS62⟩
      · have c24 : ¬ (b1.Hi ≠ 0) := c24
        refine wpRwI 3 (x := (b1.Hi != 0)) (v := false) (by kernel_rfl) (bne_eq_false_iff_eq.mpr (Decidable.of_not_not c24)) ?_
        refine wpRwI 13 (x := (b1.Hi != 0)) (v := false) (by kernel_rfl) (bne_eq_false_iff_eq.mpr (Decidable.of_not_not c24)) ?_
        refine wpRwI 14 (x := (b1.Hi != 0)) (v := false) (by kernel_rfl) (bne_eq_false_iff_eq.mpr (Decidable.of_not_not c24)) ?_
        refine wpRwI 15 (x := (b1.Hi != 0)) (v := false) (by kernel_rfl) (bne_eq_false_iff_eq.mpr (Decidable.of_not_not c24)) ?_
        refine condF (by kernel_rfl) ?_
        refine wp_seq_k (fun K27 hK28 => ?_)
        refine wp_region_lit ?_
        refine seqL1 (by kernel_rfl) ?_
        refine seqK rfl (does_run (run_load rfl Try.underlying42 rfl (by kernel_rfl : _ = Value.pointer (some ⟨b4, 0, none⟩)) (HS6.cell 0)) ?_)
        refine seqL1 (by kernel_rfl) ?_
        refine seqK rfl (does_run (run_load rfl Try.underlying42 rfl (by kernel_rfl : _ = Value.pointer (some ⟨b4, 1, none⟩)) (HS6.cell 1)) ?_)
        refine seqS3 (a' := ⟨#[.agg #[iV b1.Lo, iV b1.Hi, .bool b1.Unknown], .pointer (some ⟨b4, 0, none⟩), iV 0, .bool false, .pointer (some ⟨b4, 2, none⟩), .bool true, .bool true, .pointer (some ⟨b4, 0, none⟩), iV b1.Lo, .bool false, .bool false, .pointer (some ⟨b4, 1, none⟩), iV b1.Hi, .bool false, .bool false, .bool false, uV, .pointer (some ⟨b4, 0, none⟩), iV b1.Lo, .pointer (some ⟨b4, 1, none⟩), iV b1.Hi, iV (mn b1.Lo b1.Hi), .bool (decide ((mn b1.Lo b1.Hi) < (-1152921504606846976))), .bool (decide ((mn b1.Lo b1.Hi) < (-1152921504606846976))), uV, uV, uV, uV, uV, uV, uV, uV, uV, uV, uV, uV, uV], []⟩) (by kernel_rfl) ?_
        have hq_ := ite_some h; clear h; rcases hq_ with ⟨c29, h⟩ | ⟨c29, h⟩
        · have c29 : (mn b1.Lo b1.Hi) < (-1152921504606846976) := c29
          refine seqRwI 22 (x := (decide ((mn b1.Lo b1.Hi) < (-1152921504606846976)))) (v := true) (by kernel_rfl) (decide_eq_true c29) ?_
          refine seqRwI 23 (x := (decide ((mn b1.Lo b1.Hi) < (-1152921504606846976)))) (v := true) (by kernel_rfl) (decide_eq_true c29) ?_
          refine seqS8 (a' := ⟨#[.agg #[iV b1.Lo, iV b1.Hi, .bool b1.Unknown], .pointer (some ⟨b4, 0, none⟩), iV 0, .bool false, .pointer (some ⟨b4, 2, none⟩), .bool true, .bool true, .pointer (some ⟨b4, 0, none⟩), iV b1.Lo, .bool false, .bool false, .pointer (some ⟨b4, 1, none⟩), iV b1.Hi, .bool false, .bool false, .bool false, .bool true, .pointer (some ⟨b4, 0, none⟩), iV b1.Lo, .pointer (some ⟨b4, 1, none⟩), iV b1.Hi, iV (mn b1.Lo b1.Hi), .bool true, .bool true, uV, uV, uV, uV, uV, uV, .bool true, uV, uV, uV, uV, uV, uV], []⟩) (by kernel_rfl) ?_
          refine wpList_nil ?_
          refine hK28 _ _ ?_
          refine condT (by kernel_rfl) ?_
          refine wp_seq_k (fun K30 hK31 => ?_)
          refine wp_region_lit ?_
          refine seqS1 (a' := ⟨#[.agg #[iV b1.Lo, iV b1.Hi, .bool b1.Unknown], .pointer (some ⟨b4, 0, none⟩), iV 4, .bool false, .pointer (some ⟨b4, 2, none⟩), .bool true, .bool true, .pointer (some ⟨b4, 0, none⟩), iV b1.Lo, .bool false, .bool false, .pointer (some ⟨b4, 1, none⟩), iV b1.Hi, .bool false, .bool false, .bool false, .bool true, .pointer (some ⟨b4, 0, none⟩), iV b1.Lo, .pointer (some ⟨b4, 1, none⟩), iV b1.Hi, iV (mn b1.Lo b1.Hi), .bool true, .bool true, uV, uV, uV, uV, uV, uV, .bool true, uV, uV, uV, uV, uV, uV], []⟩) (by kernel_rfl) ?_
          refine wpList_nil ?_
          refine hK31 _ _ ?_
          refine wp_ret ?_
          refine hr13 _ _ ?_
          refine hret _ _ ?_
          refine ends_still (v := Value.int .i64 4) (by kernel_rfl) (by kernel_rfl) ?_
          have HS63 := HS6.drop
          injection h with h
          subst h
          exact ⟨f, rfl, FM.le.refl _, HS63⟩
        · have c29 : ¬ ((mn b1.Lo b1.Hi) < (-1152921504606846976)) := c29
          refine seqRwI 22 (x := (decide ((mn b1.Lo b1.Hi) < (-1152921504606846976)))) (v := false) (by kernel_rfl) (decide_eq_false c29) ?_
          refine seqRwI 23 (x := (decide ((mn b1.Lo b1.Hi) < (-1152921504606846976)))) (v := false) (by kernel_rfl) (decide_eq_false c29) ?_
          refine seqL1 (by kernel_rfl) ?_
          refine seqG (by kernel_rfl) (does_run (run_load rfl Try.underlying42 rfl (by kernel_rfl : _ = Value.pointer (some ⟨b4, 0, none⟩)) (HS6.cell 0)) ?_)
          refine seqL1 (by kernel_rfl) ?_
          refine seqG (by kernel_rfl) (does_run (run_load rfl Try.underlying42 rfl (by kernel_rfl : _ = Value.pointer (some ⟨b4, 1, none⟩)) (HS6.cell 1)) ?_)
          refine seqS4 (a' := ⟨#[.agg #[iV b1.Lo, iV b1.Hi, .bool b1.Unknown], .pointer (some ⟨b4, 0, none⟩), iV 0, .bool false, .pointer (some ⟨b4, 2, none⟩), .bool true, .bool true, .pointer (some ⟨b4, 0, none⟩), iV b1.Lo, .bool false, .bool false, .pointer (some ⟨b4, 1, none⟩), iV b1.Hi, .bool false, .bool false, .bool false, .bool (decide ((mx b1.Lo b1.Hi) > 1152921504606846976)), .pointer (some ⟨b4, 0, none⟩), iV b1.Lo, .pointer (some ⟨b4, 1, none⟩), iV b1.Hi, iV (mn b1.Lo b1.Hi), .bool false, .bool false, .pointer (some ⟨b4, 0, none⟩), iV b1.Lo, .pointer (some ⟨b4, 1, none⟩), iV b1.Hi, iV (mx b1.Lo b1.Hi), .bool (decide ((mx b1.Lo b1.Hi) > 1152921504606846976)), .bool (decide ((mx b1.Lo b1.Hi) > 1152921504606846976)), uV, uV, uV, uV, uV, uV], []⟩) (by kernel_rfl) ?_
          refine wpList_nil ?_
          refine hK28 _ _ ?_
          have hq_ := ite_some h; clear h; rcases hq_ with ⟨c33, h⟩ | ⟨c33, h⟩
          · have c33 : (mx b1.Lo b1.Hi) > 1152921504606846976 := c33
            refine wpRwI 16 (x := (decide ((mx b1.Lo b1.Hi) > 1152921504606846976))) (v := true) (by kernel_rfl) (decide_eq_true c33) ?_
            refine wpRwI 29 (x := (decide ((mx b1.Lo b1.Hi) > 1152921504606846976))) (v := true) (by kernel_rfl) (decide_eq_true c33) ?_
            refine wpRwI 30 (x := (decide ((mx b1.Lo b1.Hi) > 1152921504606846976))) (v := true) (by kernel_rfl) (decide_eq_true c33) ?_
            refine condT (by kernel_rfl) ?_
            refine wp_seq_k (fun K34 hK35 => ?_)
            refine wp_region_lit ?_
            refine seqS1 (a' := ⟨#[.agg #[iV b1.Lo, iV b1.Hi, .bool b1.Unknown], .pointer (some ⟨b4, 0, none⟩), iV 4, .bool false, .pointer (some ⟨b4, 2, none⟩), .bool true, .bool true, .pointer (some ⟨b4, 0, none⟩), iV b1.Lo, .bool false, .bool false, .pointer (some ⟨b4, 1, none⟩), iV b1.Hi, .bool false, .bool false, .bool false, .bool true, .pointer (some ⟨b4, 0, none⟩), iV b1.Lo, .pointer (some ⟨b4, 1, none⟩), iV b1.Hi, iV (mn b1.Lo b1.Hi), .bool false, .bool false, .pointer (some ⟨b4, 0, none⟩), iV b1.Lo, .pointer (some ⟨b4, 1, none⟩), iV b1.Hi, iV (mx b1.Lo b1.Hi), .bool true, .bool true, uV, uV, uV, uV, uV, uV], []⟩) (by kernel_rfl) ?_
            refine wpList_nil ?_
            refine hK35 _ _ ?_
            refine wp_ret ?_
            refine hr13 _ _ ?_
            refine hret _ _ ?_
            refine ends_still (v := Value.int .i64 4) (by kernel_rfl) (by kernel_rfl) ?_
            have HS64 := HS6.drop
            injection h with h
            subst h
            exact ⟨f, rfl, FM.le.refl _, HS64⟩
          · have c33 : ¬ ((mx b1.Lo b1.Hi) > 1152921504606846976) := c33
            refine wpRwI 16 (x := (decide ((mx b1.Lo b1.Hi) > 1152921504606846976))) (v := false) (by kernel_rfl) (decide_eq_false c33) ?_
            refine wpRwI 29 (x := (decide ((mx b1.Lo b1.Hi) > 1152921504606846976))) (v := false) (by kernel_rfl) (decide_eq_false c33) ?_
            refine wpRwI 30 (x := (decide ((mx b1.Lo b1.Hi) > 1152921504606846976))) (v := false) (by kernel_rfl) (decide_eq_false c33) ?_
            refine condF (by kernel_rfl) ?_
            refine wp_seq_k (fun K36 hK37 => ?_)
            refine wp_region_lit ?_
            refine seqL1 (by kernel_rfl) ?_
            refine seqK rfl (does_run (run_load rfl Try.underlying42 rfl (by kernel_rfl : _ = Value.pointer (some ⟨b4, 0, none⟩)) (HS6.cell 0)) ?_)
            refine seqL1 (by kernel_rfl) ?_
            refine seqK rfl (does_run (run_load rfl Try.underlying42 rfl (by kernel_rfl : _ = Value.pointer (some ⟨b4, 1, none⟩)) (HS6.cell 1)) ?_)
            refine seqS2 (a' := ⟨#[.agg #[iV b1.Lo, iV b1.Hi, .bool b1.Unknown], .pointer (some ⟨b4, 0, none⟩), iV 0, .bool false, .pointer (some ⟨b4, 2, none⟩), .bool true, .bool true, .pointer (some ⟨b4, 0, none⟩), iV b1.Lo, .bool false, .bool false, .pointer (some ⟨b4, 1, none⟩), iV b1.Hi, .bool false, .bool false, .bool false, .bool false, .pointer (some ⟨b4, 0, none⟩), iV b1.Lo, .pointer (some ⟨b4, 1, none⟩), iV b1.Hi, iV (mn b1.Lo b1.Hi), .bool false, .bool false, .pointer (some ⟨b4, 0, none⟩), iV b1.Lo, .pointer (some ⟨b4, 1, none⟩), iV b1.Hi, iV (mx b1.Lo b1.Hi), .bool false, .bool false, .bool (decide (b1.Lo > b1.Hi)), .pointer (some ⟨b4, 0, none⟩), iV b1.Lo, .pointer (some ⟨b4, 1, none⟩), iV b1.Hi, .bool (decide (b1.Lo > b1.Hi))], []⟩) (by kernel_rfl) ?_
            refine wpList_nil ?_
            refine hK37 _ _ ?_
            have hq_ := ite_some h; clear h; rcases hq_ with ⟨c39, h⟩ | ⟨c39, h⟩
            · have c39 : b1.Lo > b1.Hi := c39
              refine wpRwI 31 (x := (decide (b1.Lo > b1.Hi))) (v := true) (by kernel_rfl) (decide_eq_true c39) ?_
              refine wpRwI 36 (x := (decide (b1.Lo > b1.Hi))) (v := true) (by kernel_rfl) (decide_eq_true c39) ?_
              refine condT (by kernel_rfl) ?_
              refine wp_seq_k (fun K40 hK41 => ?_)
              refine wp_region_lit ?_
              refine seqS1 (a' := ⟨#[.agg #[iV b1.Lo, iV b1.Hi, .bool b1.Unknown], .pointer (some ⟨b4, 0, none⟩), iV 11, .bool false, .pointer (some ⟨b4, 2, none⟩), .bool true, .bool true, .pointer (some ⟨b4, 0, none⟩), iV b1.Lo, .bool false, .bool false, .pointer (some ⟨b4, 1, none⟩), iV b1.Hi, .bool false, .bool false, .bool false, .bool false, .pointer (some ⟨b4, 0, none⟩), iV b1.Lo, .pointer (some ⟨b4, 1, none⟩), iV b1.Hi, iV (mn b1.Lo b1.Hi), .bool false, .bool false, .pointer (some ⟨b4, 0, none⟩), iV b1.Lo, .pointer (some ⟨b4, 1, none⟩), iV b1.Hi, iV (mx b1.Lo b1.Hi), .bool false, .bool false, .bool true, .pointer (some ⟨b4, 0, none⟩), iV b1.Lo, .pointer (some ⟨b4, 1, none⟩), iV b1.Hi, .bool true], []⟩) (by kernel_rfl) ?_
              refine wpList_nil ?_
              refine hK41 _ _ ?_
              refine wp_ret ?_
              refine hr13 _ _ ?_
              refine hret _ _ ?_
              refine ends_still (v := Value.int .i64 11) (by kernel_rfl) (by kernel_rfl) ?_
              have HS65 := HS6.drop
              injection h with h
              subst h
              exact ⟨f, rfl, FM.le.refl _, HS65⟩
            · have c39 : ¬ (b1.Lo > b1.Hi) := c39
              refine wpRwI 31 (x := (decide (b1.Lo > b1.Hi))) (v := false) (by kernel_rfl) (decide_eq_false c39) ?_
              refine wpRwI 36 (x := (decide (b1.Lo > b1.Hi))) (v := false) (by kernel_rfl) (decide_eq_false c39) ?_
              refine condF (by kernel_rfl) ?_
              refine wp_skip ?_
              refine hn12 _ _ ?_
              refine hK9 _ _ ?_
              refine wp_seq_k (fun K57 hK58 => ?_)
              refine wp_region_lit ?_
              refine seqS1 (a' := ⟨#[.agg #[iV b1.Lo, iV b1.Hi, .bool b1.Unknown], .pointer (some ⟨b4, 0, none⟩), iV 0, .bool false, .pointer (some ⟨b4, 2, none⟩), .bool true, .bool true, .pointer (some ⟨b4, 0, none⟩), iV b1.Lo, .bool false, .bool false, .pointer (some ⟨b4, 1, none⟩), iV b1.Hi, .bool false, .bool false, .bool false, .bool false, .pointer (some ⟨b4, 0, none⟩), iV b1.Lo, .pointer (some ⟨b4, 1, none⟩), iV b1.Hi, iV (mn b1.Lo b1.Hi), .bool false, .bool false, .pointer (some ⟨b4, 0, none⟩), iV b1.Lo, .pointer (some ⟨b4, 1, none⟩), iV b1.Hi, iV (mx b1.Lo b1.Hi), .bool false, .bool false, .bool false, .pointer (some ⟨b4, 0, none⟩), iV b1.Lo, .pointer (some ⟨b4, 1, none⟩), iV b1.Hi, .bool false], []⟩) (by kernel_rfl) ?_
              refine wpList_nil ?_
              refine hK58 _ _ ?_
              refine wp_ret ?_
              refine hret _ _ ?_
              refine ends_still (v := Value.int .i64 0) (by kernel_rfl) (by kernel_rfl) ?_
              have HS69 := HS6.drop
              injection h with h
              subst h
              exact ⟨f, rfl, FM.le.refl _, HS69⟩
  · have c19 : ¬ (b1.Unknown = true) := c19
    refine seqRwI 5 (x := b1.Unknown) (v := false) (by kernel_rfl) (Bool.eq_false_iff.mpr c19) ?_
    refine seqRwI 6 (x := b1.Unknown) (v := false) (by kernel_rfl) (Bool.eq_false_iff.mpr c19) ?_
    refine seqS10 (a' := ⟨#[.agg #[iV b1.Lo, iV b1.Hi, .bool b1.Unknown], .pointer (some ⟨b4, 0, none⟩), iV 0, .bool false, .pointer (some ⟨b4, 2, none⟩), .bool false, .bool false, uV, uV, uV, uV, uV, uV, uV, uV, .bool false, uV, uV, uV, uV, uV, uV, uV, uV, uV, uV, uV, uV, uV, uV, uV, uV, uV, uV, uV, uV, uV], []⟩) (by kernel_rfl) ?_
    refine wpList_nil ?_
    refine hK18 _ _ ?_
    refine condF (by kernel_rfl) ?_
    refine wp_seq_k (fun K42 hK43 => ?_)
    refine wp_region_lit ?_
    refine seqL1 (by kernel_rfl) ?_
    refine seqK rfl (does_run (run_load rfl Try.underlying42 rfl (by kernel_rfl : _ = Value.pointer (some ⟨b4, 0, none⟩)) (HS6.cell 0)) ?_)
    refine seqL1 (by kernel_rfl) ?_
    refine seqK rfl (does_run (run_load rfl Try.underlying42 rfl (by kernel_rfl : _ = Value.pointer (some ⟨b4, 1, none⟩)) (HS6.cell 1)) ?_)
    refine seqS3 (a' := ⟨#[.agg #[iV b1.Lo, iV b1.Hi, .bool b1.Unknown], .pointer (some ⟨b4, 0, none⟩), iV 0, .bool false, .pointer (some ⟨b4, 2, none⟩), .bool false, .bool false, uV, uV, uV, uV, uV, uV, uV, uV, .bool false, uV, .pointer (some ⟨b4, 0, none⟩), iV b1.Lo, .pointer (some ⟨b4, 1, none⟩), iV b1.Hi, iV (mn b1.Lo b1.Hi), .bool (decide ((mn b1.Lo b1.Hi) < (-1152921504606846976))), .bool (decide ((mn b1.Lo b1.Hi) < (-1152921504606846976))), uV, uV, uV, uV, uV, uV, uV, uV, uV, uV, uV, uV, uV], []⟩) (by kernel_rfl) ?_
    have hq_ := ite_some h; clear h; rcases hq_ with ⟨c44, h⟩ | ⟨c44, h⟩
    · have c44 : (mn b1.Lo b1.Hi) < (-1152921504606846976) := c44
      refine seqRwI 22 (x := (decide ((mn b1.Lo b1.Hi) < (-1152921504606846976)))) (v := true) (by kernel_rfl) (decide_eq_true c44) ?_
      refine seqRwI 23 (x := (decide ((mn b1.Lo b1.Hi) < (-1152921504606846976)))) (v := true) (by kernel_rfl) (decide_eq_true c44) ?_
      refine seqS8 (a' := ⟨#[.agg #[iV b1.Lo, iV b1.Hi, .bool b1.Unknown], .pointer (some ⟨b4, 0, none⟩), iV 0, .bool false, .pointer (some ⟨b4, 2, none⟩), .bool false, .bool false, uV, uV, uV, uV, uV, uV, uV, uV, .bool false, .bool true, .pointer (some ⟨b4, 0, none⟩), iV b1.Lo, .pointer (some ⟨b4, 1, none⟩), iV b1.Hi, iV (mn b1.Lo b1.Hi), .bool true, .bool true, uV, uV, uV, uV, uV, uV, .bool true, uV, uV, uV, uV, uV, uV], []⟩) (by kernel_rfl) ?_
      refine wpList_nil ?_
      refine hK43 _ _ ?_
      refine condT (by kernel_rfl) ?_
      refine wp_seq_k (fun K45 hK46 => ?_)
      refine wp_region_lit ?_
      refine seqS1 (a' := ⟨#[.agg #[iV b1.Lo, iV b1.Hi, .bool b1.Unknown], .pointer (some ⟨b4, 0, none⟩), iV 4, .bool false, .pointer (some ⟨b4, 2, none⟩), .bool false, .bool false, uV, uV, uV, uV, uV, uV, uV, uV, .bool false, .bool true, .pointer (some ⟨b4, 0, none⟩), iV b1.Lo, .pointer (some ⟨b4, 1, none⟩), iV b1.Hi, iV (mn b1.Lo b1.Hi), .bool true, .bool true, uV, uV, uV, uV, uV, uV, .bool true, uV, uV, uV, uV, uV, uV], []⟩) (by kernel_rfl) ?_
      refine wpList_nil ?_
      refine hK46 _ _ ?_
      refine wp_ret ?_
      refine hr13 _ _ ?_
      refine hret _ _ ?_
      refine ends_still (v := Value.int .i64 4) (by kernel_rfl) (by kernel_rfl) ?_
      have HS66 := HS6.drop
      injection h with h
      subst h
      exact ⟨f, rfl, FM.le.refl _, HS66⟩
    · have c44 : ¬ ((mn b1.Lo b1.Hi) < (-1152921504606846976)) := c44
      refine seqRwI 22 (x := (decide ((mn b1.Lo b1.Hi) < (-1152921504606846976)))) (v := false) (by kernel_rfl) (decide_eq_false c44) ?_
      refine seqRwI 23 (x := (decide ((mn b1.Lo b1.Hi) < (-1152921504606846976)))) (v := false) (by kernel_rfl) (decide_eq_false c44) ?_
      refine seqL1 (by kernel_rfl) ?_
      refine seqG (by kernel_rfl) (does_run (run_load rfl Try.underlying42 rfl (by kernel_rfl : _ = Value.pointer (some ⟨b4, 0, none⟩)) (HS6.cell 0)) ?_)
      refine seqL1 (by kernel_rfl) ?_
      refine seqG (by kernel_rfl) (does_run (run_load rfl Try.underlying42 rfl (by kernel_rfl : _ = Value.pointer (some ⟨b4, 1, none⟩)) (HS6.cell 1)) ?_)
      refine seqS4 (a' := ⟨#[.agg #[iV b1.Lo, iV b1.Hi, .bool b1.Unknown], .pointer (some ⟨b4, 0, none⟩), iV 0, .bool false, .pointer (some ⟨b4, 2, none⟩), .bool false, .bool false, uV, uV, uV, uV, uV, uV, uV, uV, .bool false, .bool (decide ((mx b1.Lo b1.Hi) > 1152921504606846976)), .pointer (some ⟨b4, 0, none⟩), iV b1.Lo, .pointer (some ⟨b4, 1, none⟩), iV b1.Hi, iV (mn b1.Lo b1.Hi), .bool false, .bool false, .pointer (some ⟨b4, 0, none⟩), iV b1.Lo, .pointer (some ⟨b4, 1, none⟩), iV b1.Hi, iV (mx b1.Lo b1.Hi), .bool (decide ((mx b1.Lo b1.Hi) > 1152921504606846976)), .bool (decide ((mx b1.Lo b1.Hi) > 1152921504606846976)), uV, uV, uV, uV, uV, uV], []⟩) (by kernel_rfl) ?_
      refine wpList_nil ?_
      refine hK43 _ _ ?_
      have hq_ := ite_some h; clear h; rcases hq_ with ⟨c48, h⟩ | ⟨c48, h⟩
      · have c48 : (mx b1.Lo b1.Hi) > 1152921504606846976 := c48
        refine wpRwI 16 (x := (decide ((mx b1.Lo b1.Hi) > 1152921504606846976))) (v := true) (by kernel_rfl) (decide_eq_true c48) ?_
        refine wpRwI 29 (x := (decide ((mx b1.Lo b1.Hi) > 1152921504606846976))) (v := true) (by kernel_rfl) (decide_eq_true c48) ?_
        refine wpRwI 30 (x := (decide ((mx b1.Lo b1.Hi) > 1152921504606846976))) (v := true) (by kernel_rfl) (decide_eq_true c48) ?_
        refine condT (by kernel_rfl) ?_
        refine wp_seq_k (fun K49 hK50 => ?_)
        refine wp_region_lit ?_
        refine seqS1 (a' := ⟨#[.agg #[iV b1.Lo, iV b1.Hi, .bool b1.Unknown], .pointer (some ⟨b4, 0, none⟩), iV 4, .bool false, .pointer (some ⟨b4, 2, none⟩), .bool false, .bool false, uV, uV, uV, uV, uV, uV, uV, uV, .bool false, .bool true, .pointer (some ⟨b4, 0, none⟩), iV b1.Lo, .pointer (some ⟨b4, 1, none⟩), iV b1.Hi, iV (mn b1.Lo b1.Hi), .bool false, .bool false, .pointer (some ⟨b4, 0, none⟩), iV b1.Lo, .pointer (some ⟨b4, 1, none⟩), iV b1.Hi, iV (mx b1.Lo b1.Hi), .bool true, .bool true, uV, uV, uV, uV, uV, uV], []⟩) (by kernel_rfl) ?_
        refine wpList_nil ?_
        refine hK50 _ _ ?_
        refine wp_ret ?_
        refine hr13 _ _ ?_
        refine hret _ _ ?_
        refine ends_still (v := Value.int .i64 4) (by kernel_rfl) (by kernel_rfl) ?_
        have HS67 := HS6.drop
        injection h with h
        subst h
        exact ⟨f, rfl, FM.le.refl _, HS67⟩
      · have c48 : ¬ ((mx b1.Lo b1.Hi) > 1152921504606846976) := c48
        refine wpRwI 16 (x := (decide ((mx b1.Lo b1.Hi) > 1152921504606846976))) (v := false) (by kernel_rfl) (decide_eq_false c48) ?_
        refine wpRwI 29 (x := (decide ((mx b1.Lo b1.Hi) > 1152921504606846976))) (v := false) (by kernel_rfl) (decide_eq_false c48) ?_
        refine wpRwI 30 (x := (decide ((mx b1.Lo b1.Hi) > 1152921504606846976))) (v := false) (by kernel_rfl) (decide_eq_false c48) ?_
        refine condF (by kernel_rfl) ?_
        refine wp_seq_k (fun K51 hK52 => ?_)
        refine wp_region_lit ?_
        refine seqL1 (by kernel_rfl) ?_
        refine seqK rfl (does_run (run_load rfl Try.underlying42 rfl (by kernel_rfl : _ = Value.pointer (some ⟨b4, 0, none⟩)) (HS6.cell 0)) ?_)
        refine seqL1 (by kernel_rfl) ?_
        refine seqK rfl (does_run (run_load rfl Try.underlying42 rfl (by kernel_rfl : _ = Value.pointer (some ⟨b4, 1, none⟩)) (HS6.cell 1)) ?_)
        refine seqS2 (a' := ⟨#[.agg #[iV b1.Lo, iV b1.Hi, .bool b1.Unknown], .pointer (some ⟨b4, 0, none⟩), iV 0, .bool false, .pointer (some ⟨b4, 2, none⟩), .bool false, .bool false, uV, uV, uV, uV, uV, uV, uV, uV, .bool false, .bool false, .pointer (some ⟨b4, 0, none⟩), iV b1.Lo, .pointer (some ⟨b4, 1, none⟩), iV b1.Hi, iV (mn b1.Lo b1.Hi), .bool false, .bool false, .pointer (some ⟨b4, 0, none⟩), iV b1.Lo, .pointer (some ⟨b4, 1, none⟩), iV b1.Hi, iV (mx b1.Lo b1.Hi), .bool false, .bool false, .bool (decide (b1.Lo > b1.Hi)), .pointer (some ⟨b4, 0, none⟩), iV b1.Lo, .pointer (some ⟨b4, 1, none⟩), iV b1.Hi, .bool (decide (b1.Lo > b1.Hi))], []⟩) (by kernel_rfl) ?_
        refine wpList_nil ?_
        refine hK52 _ _ ?_
        have hq_ := ite_some h; clear h; rcases hq_ with ⟨c54, h⟩ | ⟨c54, h⟩
        · have c54 : b1.Lo > b1.Hi := c54
          refine wpRwI 31 (x := (decide (b1.Lo > b1.Hi))) (v := true) (by kernel_rfl) (decide_eq_true c54) ?_
          refine wpRwI 36 (x := (decide (b1.Lo > b1.Hi))) (v := true) (by kernel_rfl) (decide_eq_true c54) ?_
          refine condT (by kernel_rfl) ?_
          refine wp_seq_k (fun K55 hK56 => ?_)
          refine wp_region_lit ?_
          refine seqS1 (a' := ⟨#[.agg #[iV b1.Lo, iV b1.Hi, .bool b1.Unknown], .pointer (some ⟨b4, 0, none⟩), iV 11, .bool false, .pointer (some ⟨b4, 2, none⟩), .bool false, .bool false, uV, uV, uV, uV, uV, uV, uV, uV, .bool false, .bool false, .pointer (some ⟨b4, 0, none⟩), iV b1.Lo, .pointer (some ⟨b4, 1, none⟩), iV b1.Hi, iV (mn b1.Lo b1.Hi), .bool false, .bool false, .pointer (some ⟨b4, 0, none⟩), iV b1.Lo, .pointer (some ⟨b4, 1, none⟩), iV b1.Hi, iV (mx b1.Lo b1.Hi), .bool false, .bool false, .bool true, .pointer (some ⟨b4, 0, none⟩), iV b1.Lo, .pointer (some ⟨b4, 1, none⟩), iV b1.Hi, .bool true], []⟩) (by kernel_rfl) ?_
          refine wpList_nil ?_
          refine hK56 _ _ ?_
          refine wp_ret ?_
          refine hr13 _ _ ?_
          refine hret _ _ ?_
          refine ends_still (v := Value.int .i64 11) (by kernel_rfl) (by kernel_rfl) ?_
          have HS68 := HS6.drop
          injection h with h
          subst h
          exact ⟨f, rfl, FM.le.refl _, HS68⟩
        · have c54 : ¬ (b1.Lo > b1.Hi) := c54
          refine wpRwI 31 (x := (decide (b1.Lo > b1.Hi))) (v := false) (by kernel_rfl) (decide_eq_false c54) ?_
          refine wpRwI 36 (x := (decide (b1.Lo > b1.Hi))) (v := false) (by kernel_rfl) (decide_eq_false c54) ?_
          refine condF (by kernel_rfl) ?_
          refine wp_skip ?_
          refine hn12 _ _ ?_
          refine hK9 _ _ ?_
          refine wp_seq_k (fun K59 hK60 => ?_)
          refine wp_region_lit ?_
          refine seqS1 (a' := ⟨#[.agg #[iV b1.Lo, iV b1.Hi, .bool b1.Unknown], .pointer (some ⟨b4, 0, none⟩), iV 0, .bool false, .pointer (some ⟨b4, 2, none⟩), .bool false, .bool false, uV, uV, uV, uV, uV, uV, uV, uV, .bool false, .bool false, .pointer (some ⟨b4, 0, none⟩), iV b1.Lo, .pointer (some ⟨b4, 1, none⟩), iV b1.Hi, iV (mn b1.Lo b1.Hi), .bool false, .bool false, .pointer (some ⟨b4, 0, none⟩), iV b1.Lo, .pointer (some ⟨b4, 1, none⟩), iV b1.Hi, iV (mx b1.Lo b1.Hi), .bool false, .bool false, .bool false, .pointer (some ⟨b4, 0, none⟩), iV b1.Lo, .pointer (some ⟨b4, 1, none⟩), iV b1.Hi, .bool false], []⟩) (by kernel_rfl) ?_
          refine wpList_nil ?_
          refine hK60 _ _ ?_
          refine wp_ret ?_
          refine hret _ _ ?_
          refine ends_still (v := Value.int .i64 0) (by kernel_rfl) (by kernel_rfl) ?_
          have HS70 := HS6.drop
          injection h with h
          subst h
          exact ⟨f, rfl, FM.le.refl _, HS70⟩

set_option maxRecDepth 100000 in
set_option maxHeartbeats 4000000 in
theorem clean_Check.calls (k : Nat) (A2 : Option Addr) (c3 : Nat) (c1 : S_Cells) {t w : World} {f : FM} {H : List Seg} (HS : St t w f (H)) (HR4 : SlR ty_Bound f A2 c3 c1.At) (r1 : Int) (h : clean_Check k c1 = some r1) :
    Calls Try.prog 63 #[.agg #[.int .i64 c1.W, .int .i64 c1.H, .slice A2 c1.At.length c3]] w (fun e w' => ∃ (g : FM), e = .returned (Value.int .i64 r1) ∧ FM.le f g ∧ St t w' g (H)) := by
  unfold clean_Check at h
  refine enter Try.func63 rfl (tm := #[.agg #[iV c1.W, iV c1.H, .slice A2 c1.At.length c3], uV, uV, uV, uV, uV, uV, uV, uV, uV, uV, uV, uV, uV, uV, uV, uV, uV, uV, uV, uV, uV, uV, uV, uV, uV, uV, uV, uV, uV, uV, uV, uV, uV, uV, uV, uV, uV, uV, uV, uV, uV, uV, uV, uV, uV, uV, uV, uV, uV, uV, uV]) (by kernel_rfl) ?_
  intro B hret hnor hnp
  refine wp_seq_k (fun K5 hK6 => ?_)
  refine wp_region_lit ?_
  refine seqK rfl (does_box (cs := #[.int .i64 c1.W, .int .i64 c1.H, .slice A2 c1.At.length c3]) rfl (by kernel_rfl : _ = Value.agg #[.int .i64 c1.W, .int .i64 c1.H, .slice A2 c1.At.length c3]) rfl HS ?_)
  intro b7 W8 HS9
  refine seqS1 (a' := ⟨#[.agg #[iV c1.W, iV c1.H, .slice A2 c1.At.length c3], .pointer (some ⟨b7, 0, none⟩), iV 0, uV, uV, uV, uV, uV, uV, uV, uV, uV, uV, uV, uV, uV, uV, uV, uV, uV, uV, uV, uV, uV, uV, uV, uV, uV, uV, uV, uV, uV, uV, uV, uV, uV, uV, uV, uV, uV, uV, uV, uV, uV, uV, uV, uV, uV, uV, uV, uV, uV], []⟩) (by kernel_rfl) ?_
  refine wpList_nil ?_
  refine hK6 _ _ ?_
  refine wp_seq_k (fun K11 hK12 => ?_)
  refine wp_seq_k (fun K13 hK14 => ?_)
  refine wp_region_lit ?_
  refine seqL1 (by kernel_rfl) ?_
  refine seqK rfl (does_run (run_load rfl Try.underlying3 rfl (by kernel_rfl : _ = Value.pointer (some ⟨b7, 0, none⟩)) (HS9.cell 0)) ?_)
  refine seqL1 (by kernel_rfl) ?_
  refine seqK rfl (does_run (run_load rfl Try.underlying3 rfl (by kernel_rfl : _ = Value.pointer (some ⟨b7, 1, none⟩)) (HS9.cell 1)) ?_)
  refine seqS3 (a' := ⟨#[.agg #[iV c1.W, iV c1.H, .slice A2 c1.At.length c3], .pointer (some ⟨b7, 0, none⟩), iV 0, uV, uV, uV, .pointer (some ⟨b7, 0, none⟩), iV c1.W, .pointer (some ⟨b7, 1, none⟩), iV c1.H, iV (mn c1.W c1.H), .bool (decide ((mn c1.W c1.H) < 1)), .bool (decide ((mn c1.W c1.H) < 1)), uV, uV, uV, uV, uV, uV, uV, uV, uV, uV, uV, uV, uV, uV, uV, uV, uV, uV, uV, uV, uV, uV, uV, uV, uV, uV, uV, uV, uV, uV, uV, uV, uV, uV, uV, uV, uV, uV, uV], []⟩) (by kernel_rfl) ?_
  have hq_ := ite_some h; clear h; rcases hq_ with ⟨c15, h⟩ | ⟨c15, h⟩
  · have c15 : (mn c1.W c1.H) < 1 := c15
    refine seqRwI 11 (x := (decide ((mn c1.W c1.H) < 1))) (v := true) (by kernel_rfl) (decide_eq_true c15) ?_
    refine seqRwI 12 (x := (decide ((mn c1.W c1.H) < 1))) (v := true) (by kernel_rfl) (decide_eq_true c15) ?_
    refine seqS18 (a' := ⟨#[.agg #[iV c1.W, iV c1.H, .slice A2 c1.At.length c3], .pointer (some ⟨b7, 0, none⟩), iV 0, uV, uV, uV, .pointer (some ⟨b7, 0, none⟩), iV c1.W, .pointer (some ⟨b7, 1, none⟩), iV c1.H, iV (mn c1.W c1.H), .bool true, .bool true, uV, uV, uV, uV, uV, uV, .bool true, .bool true, uV, uV, uV, uV, uV, uV, uV, uV, uV, .bool true, uV, uV, uV, uV, uV, uV, uV, uV, uV, uV, uV, uV, uV, uV, uV, uV, uV, uV, uV, uV, uV], []⟩) (by kernel_rfl) ?_
    refine wpList_nil ?_
    refine hK14 _ _ ?_
    refine condT (by kernel_rfl) ?_
    refine wp_seq_k (fun K16 hK17 => ?_)
    refine wp_region_lit ?_
    refine seqS1 (a' := ⟨#[.agg #[iV c1.W, iV c1.H, .slice A2 c1.At.length c3], .pointer (some ⟨b7, 0, none⟩), iV 3, uV, uV, uV, .pointer (some ⟨b7, 0, none⟩), iV c1.W, .pointer (some ⟨b7, 1, none⟩), iV c1.H, iV (mn c1.W c1.H), .bool true, .bool true, uV, uV, uV, uV, uV, uV, .bool true, .bool true, uV, uV, uV, uV, uV, uV, uV, uV, uV, .bool true, uV, uV, uV, uV, uV, uV, uV, uV, uV, uV, uV, uV, uV, uV, uV, uV, uV, uV, uV, uV, uV], []⟩) (by kernel_rfl) ?_
    refine wpList_nil ?_
    refine hK17 _ _ ?_
    refine wp_ret ?_
    refine hret _ _ ?_
    refine ends_still (v := Value.int .i64 3) (by kernel_rfl) (by kernel_rfl) ?_
    have HS114 := HS9.drop
    injection h with h
    subst h
    exact ⟨f, rfl, FM.le.refl _, HS114⟩
  · have c15 : ¬ ((mn c1.W c1.H) < 1) := c15
    refine seqRwI 11 (x := (decide ((mn c1.W c1.H) < 1))) (v := false) (by kernel_rfl) (decide_eq_false c15) ?_
    refine seqRwI 12 (x := (decide ((mn c1.W c1.H) < 1))) (v := false) (by kernel_rfl) (decide_eq_false c15) ?_
    refine seqL1 (by kernel_rfl) ?_
    refine seqG (by kernel_rfl) (does_run (run_load rfl Try.underlying3 rfl (by kernel_rfl : _ = Value.pointer (some ⟨b7, 0, none⟩)) (HS9.cell 0)) ?_)
    refine seqL1 (by kernel_rfl) ?_
    refine seqG (by kernel_rfl) (does_run (run_load rfl Try.underlying3 rfl (by kernel_rfl : _ = Value.pointer (some ⟨b7, 1, none⟩)) (HS9.cell 1)) ?_)
    refine seqS4 (a' := ⟨#[.agg #[iV c1.W, iV c1.H, .slice A2 c1.At.length c3], .pointer (some ⟨b7, 0, none⟩), iV 0, uV, uV, uV, .pointer (some ⟨b7, 0, none⟩), iV c1.W, .pointer (some ⟨b7, 1, none⟩), iV c1.H, iV (mn c1.W c1.H), .bool false, .bool false, .pointer (some ⟨b7, 0, none⟩), iV c1.W, .pointer (some ⟨b7, 1, none⟩), iV c1.H, iV (mx c1.W c1.H), .bool (decide ((mx c1.W c1.H) > 32)), .bool (decide ((mx c1.W c1.H) > 32)), .bool (decide ((mx c1.W c1.H) > 32)), uV, uV, uV, uV, uV, uV, uV, uV, uV, uV, uV, uV, uV, uV, uV, uV, uV, uV, uV, uV, uV, uV, uV, uV, uV, uV, uV, uV, uV, uV, uV], []⟩) (by kernel_rfl) ?_
    have hq_ := ite_some h; clear h; rcases hq_ with ⟨c18, h⟩ | ⟨c18, h⟩
    · have c18 : (mx c1.W c1.H) > 32 := c18
      refine seqRwI 18 (x := (decide ((mx c1.W c1.H) > 32))) (v := true) (by kernel_rfl) (decide_eq_true c18) ?_
      refine seqRwI 19 (x := (decide ((mx c1.W c1.H) > 32))) (v := true) (by kernel_rfl) (decide_eq_true c18) ?_
      refine seqRwI 20 (x := (decide ((mx c1.W c1.H) > 32))) (v := true) (by kernel_rfl) (decide_eq_true c18) ?_
      refine seqS10 (a' := ⟨#[.agg #[iV c1.W, iV c1.H, .slice A2 c1.At.length c3], .pointer (some ⟨b7, 0, none⟩), iV 0, uV, uV, uV, .pointer (some ⟨b7, 0, none⟩), iV c1.W, .pointer (some ⟨b7, 1, none⟩), iV c1.H, iV (mn c1.W c1.H), .bool false, .bool false, .pointer (some ⟨b7, 0, none⟩), iV c1.W, .pointer (some ⟨b7, 1, none⟩), iV c1.H, iV (mx c1.W c1.H), .bool true, .bool true, .bool true, uV, uV, uV, uV, uV, uV, uV, uV, uV, .bool true, uV, uV, uV, uV, uV, uV, uV, uV, uV, uV, uV, uV, uV, uV, uV, uV, uV, uV, uV, uV, uV], []⟩) (by kernel_rfl) ?_
      refine wpList_nil ?_
      refine hK14 _ _ ?_
      refine condT (by kernel_rfl) ?_
      refine wp_seq_k (fun K19 hK20 => ?_)
      refine wp_region_lit ?_
      refine seqS1 (a' := ⟨#[.agg #[iV c1.W, iV c1.H, .slice A2 c1.At.length c3], .pointer (some ⟨b7, 0, none⟩), iV 3, uV, uV, uV, .pointer (some ⟨b7, 0, none⟩), iV c1.W, .pointer (some ⟨b7, 1, none⟩), iV c1.H, iV (mn c1.W c1.H), .bool false, .bool false, .pointer (some ⟨b7, 0, none⟩), iV c1.W, .pointer (some ⟨b7, 1, none⟩), iV c1.H, iV (mx c1.W c1.H), .bool true, .bool true, .bool true, uV, uV, uV, uV, uV, uV, uV, uV, uV, .bool true, uV, uV, uV, uV, uV, uV, uV, uV, uV, uV, uV, uV, uV, uV, uV, uV, uV, uV, uV, uV, uV], []⟩) (by kernel_rfl) ?_
      refine wpList_nil ?_
      refine hK20 _ _ ?_
      refine wp_ret ?_
      refine hret _ _ ?_
      refine ends_still (v := Value.int .i64 3) (by kernel_rfl) (by kernel_rfl) ?_
      have HS115 := HS9.drop
      injection h with h
      subst h
      exact ⟨f, rfl, FM.le.refl _, HS115⟩
    · have c18 : ¬ ((mx c1.W c1.H) > 32) := c18
      refine seqRwI 18 (x := (decide ((mx c1.W c1.H) > 32))) (v := false) (by kernel_rfl) (decide_eq_false c18) ?_
      refine seqRwI 19 (x := (decide ((mx c1.W c1.H) > 32))) (v := false) (by kernel_rfl) (decide_eq_false c18) ?_
      refine seqRwI 20 (x := (decide ((mx c1.W c1.H) > 32))) (v := false) (by kernel_rfl) (decide_eq_false c18) ?_
      refine seqL1 (by kernel_rfl) ?_
      refine seqG (by kernel_rfl) (does_run (run_load rfl Try.underlying32 rfl (by kernel_rfl : _ = Value.pointer (some ⟨b7, 2, none⟩)) (HS9.cell 2)) ?_)
      refine seqL2 (by kernel_rfl) ?_
      refine seqG (by kernel_rfl) (does_run (run_load rfl Try.underlying3 rfl (by kernel_rfl : _ = Value.pointer (some ⟨b7, 0, none⟩)) (HS9.cell 0)) ?_)
      refine seqL1 (by kernel_rfl) ?_
      refine seqG (by kernel_rfl) (does_run (run_load rfl Try.underlying3 rfl (by kernel_rfl : _ = Value.pointer (some ⟨b7, 1, none⟩)) (HS9.cell 1)) ?_)
      refine seqS3 (a' := ⟨#[.agg #[iV c1.W, iV c1.H, .slice A2 c1.At.length c3], .pointer (some ⟨b7, 0, none⟩), iV 0, uV, uV, uV, .pointer (some ⟨b7, 0, none⟩), iV c1.W, .pointer (some ⟨b7, 1, none⟩), iV c1.H, iV (mn c1.W c1.H), .bool false, .bool false, .pointer (some ⟨b7, 0, none⟩), iV c1.W, .pointer (some ⟨b7, 1, none⟩), iV c1.H, iV (mx c1.W c1.H), .bool false, .bool false, .bool false, .pointer (some ⟨b7, 2, none⟩), .slice A2 c1.At.length c3, iV (c1.At.length : Int), .pointer (some ⟨b7, 0, none⟩), iV c1.W, .pointer (some ⟨b7, 1, none⟩), iV c1.H, iV (w64 (c1.W * c1.H)), .bool ((c1.At.length : Int) != (w64 (c1.W * c1.H))), .bool ((c1.At.length : Int) != (w64 (c1.W * c1.H))), uV, uV, uV, uV, uV, uV, uV, uV, uV, uV, uV, uV, uV, uV, uV, uV, uV, uV, uV, uV, uV], []⟩) (by kernel_rfl) ?_
      refine wpList_nil ?_
      refine hK14 _ _ ?_
      have hq_ := ite_some h; clear h; rcases hq_ with ⟨c22, h⟩ | ⟨c22, h⟩
      · have c22 : (c1.At.length : Int) ≠ (w64 (c1.W * c1.H)) := c22
        refine wpRwI 29 (x := ((c1.At.length : Int) != (w64 (c1.W * c1.H)))) (v := true) (by kernel_rfl) (bne_iff_ne.mpr c22) ?_
        refine wpRwI 30 (x := ((c1.At.length : Int) != (w64 (c1.W * c1.H)))) (v := true) (by kernel_rfl) (bne_iff_ne.mpr c22) ?_
        refine condT (by kernel_rfl) ?_
        refine wp_seq_k (fun K23 hK24 => ?_)
        refine wp_region_lit ?_
        refine seqS1 (a' := ⟨#[.agg #[iV c1.W, iV c1.H, .slice A2 c1.At.length c3], .pointer (some ⟨b7, 0, none⟩), iV 3, uV, uV, uV, .pointer (some ⟨b7, 0, none⟩), iV c1.W, .pointer (some ⟨b7, 1, none⟩), iV c1.H, iV (mn c1.W c1.H), .bool false, .bool false, .pointer (some ⟨b7, 0, none⟩), iV c1.W, .pointer (some ⟨b7, 1, none⟩), iV c1.H, iV (mx c1.W c1.H), .bool false, .bool false, .bool false, .pointer (some ⟨b7, 2, none⟩), .slice A2 c1.At.length c3, iV (c1.At.length : Int), .pointer (some ⟨b7, 0, none⟩), iV c1.W, .pointer (some ⟨b7, 1, none⟩), iV c1.H, iV (w64 (c1.W * c1.H)), .bool true, .bool true, uV, uV, uV, uV, uV, uV, uV, uV, uV, uV, uV, uV, uV, uV, uV, uV, uV, uV, uV, uV, uV], []⟩) (by kernel_rfl) ?_
        refine wpList_nil ?_
        refine hK24 _ _ ?_
        refine wp_ret ?_
        refine hret _ _ ?_
        refine ends_still (v := Value.int .i64 3) (by kernel_rfl) (by kernel_rfl) ?_
        have HS116 := HS9.drop
        injection h with h
        subst h
        exact ⟨f, rfl, FM.le.refl _, HS116⟩
      · have c22 : ¬ ((c1.At.length : Int) ≠ (w64 (c1.W * c1.H))) := c22
        refine wpRwI 29 (x := ((c1.At.length : Int) != (w64 (c1.W * c1.H)))) (v := false) (by kernel_rfl) (bne_eq_false_iff_eq.mpr (Decidable.of_not_not c22)) ?_
        refine wpRwI 30 (x := ((c1.At.length : Int) != (w64 (c1.W * c1.H)))) (v := false) (by kernel_rfl) (bne_eq_false_iff_eq.mpr (Decidable.of_not_not c22)) ?_
        refine condF (by kernel_rfl) ?_
        refine wp_skip ?_
        refine hK12 _ _ ?_
        refine wp_seq_k (fun K25 hK26 => ?_)
        refine wp_seq_k (fun K27 hK28 => ?_)
        refine wp_region_lit ?_
        refine seqL1 (by kernel_rfl) ?_
        refine seqK rfl (does_run (run_load rfl Try.underlying32 rfl (by kernel_rfl : _ = Value.pointer (some ⟨b7, 2, none⟩)) (HS9.cell 2)) ?_)
        refine seqS2 (a' := ⟨#[.agg #[iV c1.W, iV c1.H, .slice A2 c1.At.length c3], .pointer (some ⟨b7, 0, none⟩), iV 0, uV, uV, uV, .pointer (some ⟨b7, 0, none⟩), iV c1.W, .pointer (some ⟨b7, 1, none⟩), iV c1.H, iV (mn c1.W c1.H), .bool false, .bool false, .pointer (some ⟨b7, 0, none⟩), iV c1.W, .pointer (some ⟨b7, 1, none⟩), iV c1.H, iV (mx c1.W c1.H), .bool false, .bool false, .bool false, .pointer (some ⟨b7, 2, none⟩), .slice A2 c1.At.length c3, iV (c1.At.length : Int), .pointer (some ⟨b7, 0, none⟩), iV c1.W, .pointer (some ⟨b7, 1, none⟩), iV c1.H, iV (w64 (c1.W * c1.H)), .bool false, .bool false, .pointer (some ⟨b7, 2, none⟩), .slice A2 c1.At.length c3, iV (c1.At.length : Int), iV 0, uV, uV, uV, uV, uV, uV, uV, uV, uV, uV, uV, uV, uV, uV, uV, uV, uV], []⟩) (by kernel_rfl) ?_
        refine wpList_nil ?_
        refine hK28 _ _ ?_
        refine blockK (fun B29 hx30 hn31 hr32 ho33 hp34 => ?_)
        have hq_ := bind_some h; clear h; obtain ⟨o35, hv105, h⟩ := hq_
        have JR107 : ∀ z_, some (Sum.inl z_) = some o35 → some z_ = some r1 := by
          intro z_ e_; injection e_ with e_; subst e_; exact h
        have J106 : ∀ (f100 : FM) (j104 : Nat → Value) (W102 : World) (a_ : Act), FM.le f f100 → some (Sum.inr ()) = some o35 → St t W102 f100 ([(b7, .cells #[.int .i64 c1.W, .int .i64 c1.H, .slice A2 c1.At.length c3] 34 (0, 0))] :: H) → a_ = ⟨#[.agg #[iV c1.W, iV c1.H, .slice A2 c1.At.length c3], .pointer (some ⟨b7, 0, none⟩), (j104 0), uV, (j104 1), (j104 2), .pointer (some ⟨b7, 0, none⟩), iV c1.W, .pointer (some ⟨b7, 1, none⟩), iV c1.H, iV (mn c1.W c1.H), .bool false, .bool false, .pointer (some ⟨b7, 0, none⟩), iV c1.W, .pointer (some ⟨b7, 1, none⟩), iV c1.H, iV (mx c1.W c1.H), .bool false, .bool false, .bool false, .pointer (some ⟨b7, 2, none⟩), .slice A2 c1.At.length c3, iV (c1.At.length : Int), .pointer (some ⟨b7, 0, none⟩), iV c1.W, .pointer (some ⟨b7, 1, none⟩), iV c1.H, iV (w64 (c1.W * c1.H)), .bool false, .bool false, .pointer (some ⟨b7, 2, none⟩), .slice A2 c1.At.length c3, iV (c1.At.length : Int), (j104 3), (j104 4), (j104 5), (j104 6), (j104 7), (j104 8), (j104 9), (j104 10), (j104 11), (j104 12), (j104 13), (j104 14), (j104 15), (j104 16), (j104 17), (j104 18), (j104 19), (j104 20)], []⟩ → K25 a_ W102 := by
          intro f100 j104 W102 a_ L101 hj108 HS103  hfr_; subst hfr_
          injection hj108 with hj108; subst hj108; try dsimp only at h
          simp only [Sum.elim_inr] at h
          refine hK26 _ _ ?_
          refine wp_seq_k (fun K112 hK113 => ?_)
          refine wp_region_lit ?_
          refine seqS1 (a' := ⟨#[.agg #[iV c1.W, iV c1.H, .slice A2 c1.At.length c3], .pointer (some ⟨b7, 0, none⟩), iV 0, uV, (j104 1), (j104 2), .pointer (some ⟨b7, 0, none⟩), iV c1.W, .pointer (some ⟨b7, 1, none⟩), iV c1.H, iV (mn c1.W c1.H), .bool false, .bool false, .pointer (some ⟨b7, 0, none⟩), iV c1.W, .pointer (some ⟨b7, 1, none⟩), iV c1.H, iV (mx c1.W c1.H), .bool false, .bool false, .bool false, .pointer (some ⟨b7, 2, none⟩), .slice A2 c1.At.length c3, iV (c1.At.length : Int), .pointer (some ⟨b7, 0, none⟩), iV c1.W, .pointer (some ⟨b7, 1, none⟩), iV c1.H, iV (w64 (c1.W * c1.H)), .bool false, .bool false, .pointer (some ⟨b7, 2, none⟩), .slice A2 c1.At.length c3, iV (c1.At.length : Int), (j104 3), (j104 4), (j104 5), (j104 6), (j104 7), (j104 8), (j104 9), (j104 10), (j104 11), (j104 12), (j104 13), (j104 14), (j104 15), (j104 16), (j104 17), (j104 18), (j104 19), (j104 20)], []⟩) (by kernel_rfl) ?_
          refine wpList_nil ?_
          refine hK113 _ _ ?_
          refine wp_ret ?_
          refine hret _ _ ?_
          refine ends_still (v := Value.int .i64 0) (by kernel_rfl) (by kernel_rfl) ?_
          have HS123 := HS103.drop
          injection h with h
          subst h
          exact ⟨f100, rfl, L101, HS123⟩
        clear h; have h := hv105; clear hv105
        refine loopK (fun n_ a_ w_ => ∃ (f39 : FM) (x44 : Int) (j43 : Nat → Value), FM.le f f39 ∧ St t w_ f39 ([(b7, .cells #[.int .i64 c1.W, .int .i64 c1.H, .slice A2 c1.At.length c3] 34 (0, 0))] :: H) ∧ clean_Check.l0 k c1 n_ x44 = some o35 ∧ a_ = ⟨#[.agg #[iV c1.W, iV c1.H, .slice A2 c1.At.length c3], .pointer (some ⟨b7, 0, none⟩), (j43 0), uV, (j43 1), (j43 2), .pointer (some ⟨b7, 0, none⟩), iV c1.W, .pointer (some ⟨b7, 1, none⟩), iV c1.H, iV (mn c1.W c1.H), .bool false, .bool false, .pointer (some ⟨b7, 0, none⟩), iV c1.W, .pointer (some ⟨b7, 1, none⟩), iV c1.H, iV (mx c1.W c1.H), .bool false, .bool false, .bool false, .pointer (some ⟨b7, 2, none⟩), .slice A2 c1.At.length c3, iV (c1.At.length : Int), .pointer (some ⟨b7, 0, none⟩), iV c1.W, .pointer (some ⟨b7, 1, none⟩), iV c1.H, iV (w64 (c1.W * c1.H)), .bool false, .bool false, .pointer (some ⟨b7, 2, none⟩), .slice A2 c1.At.length c3, iV (c1.At.length : Int), iV x44, (j43 3), (j43 4), (j43 5), (j43 6), (j43 7), (j43 8), (j43 9), (j43 10), (j43 11), (j43 12), (j43 13), (j43 14), (j43 15), (j43 16), (j43 17), (j43 18), (j43 19)], []⟩) k ⟨f, 0, (fun i_ => [Value.int .i64 0, undef, undef, undef, undef, undef, undef, undef, undef, undef, undef, undef, undef, undef, undef, undef, undef, undef, undef, undef].getD i_ undef), (FM.le.refl _), HS9, h, (by kernel_rfl)⟩ ?_
        clear h
        rintro n38 _ W41 ⟨f39, x44, j43, L40, HS42, h, rfl⟩ K36 hK37
        obtain _ | n38 := n38
        · exact nomatch h
        simp only [clean_Check.l0] at h
        refine wp_seq_k (fun K45 hK46 => ?_)
        refine wp_region_lit ?_
        refine seqS1 (a' := ⟨#[.agg #[iV c1.W, iV c1.H, .slice A2 c1.At.length c3], .pointer (some ⟨b7, 0, none⟩), (j43 0), uV, (j43 1), (j43 2), .pointer (some ⟨b7, 0, none⟩), iV c1.W, .pointer (some ⟨b7, 1, none⟩), iV c1.H, iV (mn c1.W c1.H), .bool false, .bool false, .pointer (some ⟨b7, 0, none⟩), iV c1.W, .pointer (some ⟨b7, 1, none⟩), iV c1.H, iV (mx c1.W c1.H), .bool false, .bool false, .bool false, .pointer (some ⟨b7, 2, none⟩), .slice A2 c1.At.length c3, iV (c1.At.length : Int), .pointer (some ⟨b7, 0, none⟩), iV c1.W, .pointer (some ⟨b7, 1, none⟩), iV c1.H, iV (w64 (c1.W * c1.H)), .bool false, .bool false, .pointer (some ⟨b7, 2, none⟩), .slice A2 c1.At.length c3, iV (c1.At.length : Int), iV x44, .bool (decide (x44 < (c1.At.length : Int))), (j43 4), (j43 5), (j43 6), (j43 7), (j43 8), (j43 9), (j43 10), (j43 11), (j43 12), (j43 13), (j43 14), (j43 15), (j43 16), (j43 17), (j43 18), (j43 19)], []⟩) (by kernel_rfl) ?_
        refine wpList_nil ?_
        refine hK46 _ _ ?_
        refine wp_seq_k (fun K47 hK48 => ?_)
        have hq_ := ite_some h; clear h; rcases hq_ with ⟨c50, h⟩ | ⟨c50, h⟩
        · have c50 : x44 < (c1.At.length : Int) := c50
          refine wpRwI 35 (x := (decide (x44 < (c1.At.length : Int)))) (v := true) (by kernel_rfl) (decide_eq_true c50) ?_
          refine condT (by kernel_rfl) ?_
          refine wp_skip ?_
          refine hK48 _ _ ?_
          refine wp_seq_k (fun K51 hK52 => ?_)
          refine blockK (fun B53 hx54 hn55 hr56 ho57 hp58 => ?_)
          refine wp_seq_k (fun K60 hK61 => ?_)
          refine wp_region_lit ?_
          have hq_ := guard_some h; clear h; obtain ⟨c62, h⟩ := hq_
          have c62 : 0 ≤ x44 := c62
          obtain ⟨b66, of67, cs63, hA68, hr64, hc65⟩ := (HR4.mono L40).at (i := x44) c62 c50
          obtain rfl := hr64
          refine seqK rfl (does_run (run_indexE hA68 (sz := 3) rfl Try.underlying32 (by kernel_rfl) (by kernel_rfl : _ = Value.slice A2 c1.At.length c3) (by kernel_rfl : _ = Value.int .i64 x44) c62 c50 W41) ?_)
          refine seqK rfl (does_run (run_loadN (n := 3) rfl Try.underlying44 rfl (by kernel_rfl) (by kernel_rfl : _ = Value.pointer (some ⟨b66, of67 + (x44 : Int).toNat * 3, none⟩)) (cs := [.int .i64 ((rd c1.At x44).Lo), .int .i64 ((rd c1.At x44).Hi), .bool ((rd c1.At x44).Unknown)]) rfl (fun j_ hj_ => ((hc65 (FM.le.refl _) HS42) j_ hj_))) ?_)
          refine seqK rfl (does_alloc (z := Value.agg #[.int .i64 0, .int .i64 0, .bool false]) (cs := #[.int .i64 0, .int .i64 0, .bool false]) rfl (by kernel_rfl) rfl HS42 ?_)
          intro b69 W70 HS71
          refine seqK rfl (does_store (n := 3) (vs := [.int .i64 ((rd c1.At x44).Lo), .int .i64 ((rd c1.At x44).Hi), .bool ((rd c1.At x44).Unknown)]) (cs' := #[.int .i64 ((rd c1.At x44).Lo), .int .i64 ((rd c1.At x44).Hi), .bool ((rd c1.At x44).Unknown)]) rfl (by kernel_rfl) (by kernel_rfl : _ = Value.pointer (some ⟨b69, 0, none⟩)) (by kernel_rfl : _ = Value.agg #[.int .i64 ((rd c1.At x44).Lo), .int .i64 ((rd c1.At x44).Hi), .bool ((rd c1.At x44).Unknown)]) rfl rfl (by intro u_ hu_; simp only [List.mem_cons, List.not_mem_nil, or_false] at hu_; rcases hu_ with rfl | rfl | rfl <;> rfl) HS71 (Nat.le_of_ble_eq_true rfl) (by kernel_rfl) ?_)
          intro W73 HS74
          refine wpList_nil ?_
          refine hK61 _ _ ?_
          refine wp_seq_k (fun K75 hK76 => ?_)
          refine wp_seq_k (fun K77 hK78 => ?_)
          refine wp_region_lit ?_
          refine seqK rfl (does_run (run_loadN (n := 3) rfl Try.underlying44 rfl (by kernel_rfl) (by kernel_rfl : _ = Value.pointer (some ⟨b69, 0, none⟩)) (cs := [.int .i64 ((rd c1.At x44).Lo), .int .i64 ((rd c1.At x44).Hi), .bool ((rd c1.At x44).Unknown)]) rfl (HS74.cells 0 3 _ rfl)) ?_)
          have hq_ := bind_some h; clear h; obtain ⟨vt79, hc80, h⟩ := hq_
          refine seqK rfl (does_call (f := 71) (args := #[.agg #[.int .i64 ((rd c1.At x44).Lo), .int .i64 ((rd c1.At x44).Hi), .bool ((rd c1.At x44).Unknown)]]) (by kernel_rfl) (bound_Check_Quanta.calls k (rd c1.At x44) HS74 vt79 hc80) ?_)
          rintro _ W83 ⟨f81, rfl, L82, HS84⟩
          refine ⟨_, rfl, ?_⟩
          refine seqS1 (a' := ⟨#[.agg #[iV c1.W, iV c1.H, .slice A2 c1.At.length c3], .pointer (some ⟨b7, 0, none⟩), (j43 0), uV, .pointer (some ⟨b69, 0, none⟩), iV vt79, .pointer (some ⟨b7, 0, none⟩), iV c1.W, .pointer (some ⟨b7, 1, none⟩), iV c1.H, iV (mn c1.W c1.H), .bool false, .bool false, .pointer (some ⟨b7, 0, none⟩), iV c1.W, .pointer (some ⟨b7, 1, none⟩), iV c1.H, iV (mx c1.W c1.H), .bool false, .bool false, .bool false, .pointer (some ⟨b7, 2, none⟩), .slice A2 c1.At.length c3, iV (c1.At.length : Int), .pointer (some ⟨b7, 0, none⟩), iV c1.W, .pointer (some ⟨b7, 1, none⟩), iV c1.H, iV (w64 (c1.W * c1.H)), .bool false, .bool false, .pointer (some ⟨b7, 2, none⟩), .slice A2 c1.At.length c3, iV (c1.At.length : Int), iV x44, .bool true, .pointer (some ⟨b66, of67 + (x44 : Int).toNat * 3, none⟩), .agg #[iV ((rd c1.At x44).Lo), iV ((rd c1.At x44).Hi), .bool ((rd c1.At x44).Unknown)], .agg #[iV ((rd c1.At x44).Lo), iV ((rd c1.At x44).Hi), .bool ((rd c1.At x44).Unknown)], iV vt79, (j43 8), (j43 9), (j43 10), (j43 11), (j43 12), (j43 13), (j43 14), (j43 15), (j43 16), (j43 17), (j43 18), (j43 19)], []⟩) (by kernel_rfl) ?_
          refine wpList_nil ?_
          refine hK78 _ _ ?_
          refine wp_seq_k (fun K85 hK86 => ?_)
          refine wp_region_lit ?_
          refine seqS2 (a' := ⟨#[.agg #[iV c1.W, iV c1.H, .slice A2 c1.At.length c3], .pointer (some ⟨b7, 0, none⟩), (j43 0), uV, .pointer (some ⟨b69, 0, none⟩), iV vt79, .pointer (some ⟨b7, 0, none⟩), iV c1.W, .pointer (some ⟨b7, 1, none⟩), iV c1.H, iV (mn c1.W c1.H), .bool false, .bool false, .pointer (some ⟨b7, 0, none⟩), iV c1.W, .pointer (some ⟨b7, 1, none⟩), iV c1.H, iV (mx c1.W c1.H), .bool false, .bool false, .bool false, .pointer (some ⟨b7, 2, none⟩), .slice A2 c1.At.length c3, iV (c1.At.length : Int), .pointer (some ⟨b7, 0, none⟩), iV c1.W, .pointer (some ⟨b7, 1, none⟩), iV c1.H, iV (w64 (c1.W * c1.H)), .bool false, .bool false, .pointer (some ⟨b7, 2, none⟩), .slice A2 c1.At.length c3, iV (c1.At.length : Int), iV x44, .bool true, .pointer (some ⟨b66, of67 + (x44 : Int).toNat * 3, none⟩), .agg #[iV ((rd c1.At x44).Lo), iV ((rd c1.At x44).Hi), .bool ((rd c1.At x44).Unknown)], .agg #[iV ((rd c1.At x44).Lo), iV ((rd c1.At x44).Hi), .bool ((rd c1.At x44).Unknown)], iV vt79, iV vt79, .bool (vt79 != 0), (j43 10), (j43 11), (j43 12), (j43 13), (j43 14), (j43 15), (j43 16), (j43 17), (j43 18), (j43 19)], []⟩) (by kernel_rfl) ?_
          refine wpList_nil ?_
          refine hK86 _ _ ?_
          have hq_ := ite_some h; clear h; rcases hq_ with ⟨c88, h⟩ | ⟨c88, h⟩
          · have c88 : vt79 ≠ 0 := c88
            refine wpRwI 41 (x := (vt79 != 0)) (v := true) (by kernel_rfl) (bne_iff_ne.mpr c88) ?_
            refine condT (by kernel_rfl) ?_
            refine wp_seq_k (fun K89 hK90 => ?_)
            refine wp_region_lit ?_
            refine seqS2 (a' := ⟨#[.agg #[iV c1.W, iV c1.H, .slice A2 c1.At.length c3], .pointer (some ⟨b7, 0, none⟩), iV vt79, uV, .pointer (some ⟨b69, 0, none⟩), iV vt79, .pointer (some ⟨b7, 0, none⟩), iV c1.W, .pointer (some ⟨b7, 1, none⟩), iV c1.H, iV (mn c1.W c1.H), .bool false, .bool false, .pointer (some ⟨b7, 0, none⟩), iV c1.W, .pointer (some ⟨b7, 1, none⟩), iV c1.H, iV (mx c1.W c1.H), .bool false, .bool false, .bool false, .pointer (some ⟨b7, 2, none⟩), .slice A2 c1.At.length c3, iV (c1.At.length : Int), .pointer (some ⟨b7, 0, none⟩), iV c1.W, .pointer (some ⟨b7, 1, none⟩), iV c1.H, iV (w64 (c1.W * c1.H)), .bool false, .bool false, .pointer (some ⟨b7, 2, none⟩), .slice A2 c1.At.length c3, iV (c1.At.length : Int), iV x44, .bool true, .pointer (some ⟨b66, of67 + (x44 : Int).toNat * 3, none⟩), .agg #[iV ((rd c1.At x44).Lo), iV ((rd c1.At x44).Hi), .bool ((rd c1.At x44).Unknown)], .agg #[iV ((rd c1.At x44).Lo), iV ((rd c1.At x44).Hi), .bool ((rd c1.At x44).Unknown)], iV vt79, iV vt79, .bool true, iV vt79, (j43 11), (j43 12), (j43 13), (j43 14), (j43 15), (j43 16), (j43 17), (j43 18), (j43 19)], []⟩) (by kernel_rfl) ?_
            refine wpList_nil ?_
            refine hK90 _ _ ?_
            refine wp_ret ?_
            refine hr56 _ _ ?_
            refine hr32 _ _ ?_
            refine hret _ _ ?_
            refine ends_still (v := Value.int .i64 vt79) (by kernel_rfl) (by kernel_rfl) ?_
            have HS117 := HS84.drop
            have HS118 := HS117.drop
            replace h := JR107 _ h
            injection h with h
            subst h
            exact ⟨f81, rfl, (L40.trans L82), HS118⟩
          · have c88 : ¬ (vt79 ≠ 0) := c88
            refine wpRwI 41 (x := (vt79 != 0)) (v := false) (by kernel_rfl) (bne_eq_false_iff_eq.mpr (Decidable.of_not_not c88)) ?_
            refine condF (by kernel_rfl) ?_
            refine wp_skip ?_
            refine hK76 _ _ ?_
            refine wp_seq_k (fun K91 hK92 => ?_)
            refine wp_region_lit ?_
            refine seqL1 (by kernel_rfl) ?_
            refine seqK rfl (does_run (run_load rfl Try.underlying42 rfl (by kernel_rfl : _ = Value.pointer (some ⟨b69, 0, none⟩)) (HS84.cell 0)) ?_)
            refine seqS2 (a' := ⟨#[.agg #[iV c1.W, iV c1.H, .slice A2 c1.At.length c3], .pointer (some ⟨b7, 0, none⟩), (j43 0), uV, .pointer (some ⟨b69, 0, none⟩), iV vt79, .pointer (some ⟨b7, 0, none⟩), iV c1.W, .pointer (some ⟨b7, 1, none⟩), iV c1.H, iV (mn c1.W c1.H), .bool false, .bool false, .pointer (some ⟨b7, 0, none⟩), iV c1.W, .pointer (some ⟨b7, 1, none⟩), iV c1.H, iV (mx c1.W c1.H), .bool false, .bool false, .bool false, .pointer (some ⟨b7, 2, none⟩), .slice A2 c1.At.length c3, iV (c1.At.length : Int), .pointer (some ⟨b7, 0, none⟩), iV c1.W, .pointer (some ⟨b7, 1, none⟩), iV c1.H, iV (w64 (c1.W * c1.H)), .bool false, .bool false, .pointer (some ⟨b7, 2, none⟩), .slice A2 c1.At.length c3, iV (c1.At.length : Int), iV x44, .bool true, .pointer (some ⟨b66, of67 + (x44 : Int).toNat * 3, none⟩), .agg #[iV ((rd c1.At x44).Lo), iV ((rd c1.At x44).Hi), .bool ((rd c1.At x44).Unknown)], .agg #[iV ((rd c1.At x44).Lo), iV ((rd c1.At x44).Hi), .bool ((rd c1.At x44).Unknown)], iV vt79, iV vt79, .bool false, (j43 10), .pointer (some ⟨b69, 0, none⟩), iV ((rd c1.At x44).Lo), .bool (decide (((rd c1.At x44).Lo) < (-1099511627776))), .bool (decide (((rd c1.At x44).Lo) < (-1099511627776))), (j43 15), (j43 16), (j43 17), (j43 18), (j43 19)], []⟩) (by kernel_rfl) ?_
            have hq_ := ite_some h; clear h; rcases hq_ with ⟨c93, h⟩ | ⟨c93, h⟩
            · have c93 : ((rd c1.At x44).Lo) < (-1099511627776) := c93
              refine seqRwI 45 (x := (decide (((rd c1.At x44).Lo) < (-1099511627776)))) (v := true) (by kernel_rfl) (decide_eq_true c93) ?_
              refine seqRwI 46 (x := (decide (((rd c1.At x44).Lo) < (-1099511627776)))) (v := true) (by kernel_rfl) (decide_eq_true c93) ?_
              refine seqS4 (a' := ⟨#[.agg #[iV c1.W, iV c1.H, .slice A2 c1.At.length c3], .pointer (some ⟨b7, 0, none⟩), (j43 0), uV, .pointer (some ⟨b69, 0, none⟩), iV vt79, .pointer (some ⟨b7, 0, none⟩), iV c1.W, .pointer (some ⟨b7, 1, none⟩), iV c1.H, iV (mn c1.W c1.H), .bool false, .bool false, .pointer (some ⟨b7, 0, none⟩), iV c1.W, .pointer (some ⟨b7, 1, none⟩), iV c1.H, iV (mx c1.W c1.H), .bool false, .bool false, .bool false, .pointer (some ⟨b7, 2, none⟩), .slice A2 c1.At.length c3, iV (c1.At.length : Int), .pointer (some ⟨b7, 0, none⟩), iV c1.W, .pointer (some ⟨b7, 1, none⟩), iV c1.H, iV (w64 (c1.W * c1.H)), .bool false, .bool false, .pointer (some ⟨b7, 2, none⟩), .slice A2 c1.At.length c3, iV (c1.At.length : Int), iV x44, .bool true, .pointer (some ⟨b66, of67 + (x44 : Int).toNat * 3, none⟩), .agg #[iV ((rd c1.At x44).Lo), iV ((rd c1.At x44).Hi), .bool ((rd c1.At x44).Unknown)], .agg #[iV ((rd c1.At x44).Lo), iV ((rd c1.At x44).Hi), .bool ((rd c1.At x44).Unknown)], iV vt79, iV vt79, .bool false, (j43 10), .pointer (some ⟨b69, 0, none⟩), iV ((rd c1.At x44).Lo), .bool true, .bool true, uV, uV, uV, .bool true, (j43 19)], []⟩) (by kernel_rfl) ?_
              refine wpList_nil ?_
              refine hK92 _ _ ?_
              refine condT (by kernel_rfl) ?_
              refine wp_seq_k (fun K94 hK95 => ?_)
              refine wp_region_lit ?_
              refine seqS1 (a' := ⟨#[.agg #[iV c1.W, iV c1.H, .slice A2 c1.At.length c3], .pointer (some ⟨b7, 0, none⟩), iV 4, uV, .pointer (some ⟨b69, 0, none⟩), iV vt79, .pointer (some ⟨b7, 0, none⟩), iV c1.W, .pointer (some ⟨b7, 1, none⟩), iV c1.H, iV (mn c1.W c1.H), .bool false, .bool false, .pointer (some ⟨b7, 0, none⟩), iV c1.W, .pointer (some ⟨b7, 1, none⟩), iV c1.H, iV (mx c1.W c1.H), .bool false, .bool false, .bool false, .pointer (some ⟨b7, 2, none⟩), .slice A2 c1.At.length c3, iV (c1.At.length : Int), .pointer (some ⟨b7, 0, none⟩), iV c1.W, .pointer (some ⟨b7, 1, none⟩), iV c1.H, iV (w64 (c1.W * c1.H)), .bool false, .bool false, .pointer (some ⟨b7, 2, none⟩), .slice A2 c1.At.length c3, iV (c1.At.length : Int), iV x44, .bool true, .pointer (some ⟨b66, of67 + (x44 : Int).toNat * 3, none⟩), .agg #[iV ((rd c1.At x44).Lo), iV ((rd c1.At x44).Hi), .bool ((rd c1.At x44).Unknown)], .agg #[iV ((rd c1.At x44).Lo), iV ((rd c1.At x44).Hi), .bool ((rd c1.At x44).Unknown)], iV vt79, iV vt79, .bool false, (j43 10), .pointer (some ⟨b69, 0, none⟩), iV ((rd c1.At x44).Lo), .bool true, .bool true, uV, uV, uV, .bool true, (j43 19)], []⟩) (by kernel_rfl) ?_
              refine wpList_nil ?_
              refine hK95 _ _ ?_
              refine wp_ret ?_
              refine hr56 _ _ ?_
              refine hr32 _ _ ?_
              refine hret _ _ ?_
              refine ends_still (v := Value.int .i64 4) (by kernel_rfl) (by kernel_rfl) ?_
              have HS119 := HS84.drop
              have HS120 := HS119.drop
              replace h := JR107 _ h
              injection h with h
              subst h
              exact ⟨f81, rfl, (L40.trans L82), HS120⟩
            · have c93 : ¬ (((rd c1.At x44).Lo) < (-1099511627776)) := c93
              refine seqRwI 45 (x := (decide (((rd c1.At x44).Lo) < (-1099511627776)))) (v := false) (by kernel_rfl) (decide_eq_false c93) ?_
              refine seqRwI 46 (x := (decide (((rd c1.At x44).Lo) < (-1099511627776)))) (v := false) (by kernel_rfl) (decide_eq_false c93) ?_
              refine seqL1 (by kernel_rfl) ?_
              refine seqG (by kernel_rfl) (does_run (run_load rfl Try.underlying42 rfl (by kernel_rfl : _ = Value.pointer (some ⟨b69, 1, none⟩)) (HS84.cell 1)) ?_)
              refine seqS2 (a' := ⟨#[.agg #[iV c1.W, iV c1.H, .slice A2 c1.At.length c3], .pointer (some ⟨b7, 0, none⟩), (j43 0), uV, .pointer (some ⟨b69, 0, none⟩), iV vt79, .pointer (some ⟨b7, 0, none⟩), iV c1.W, .pointer (some ⟨b7, 1, none⟩), iV c1.H, iV (mn c1.W c1.H), .bool false, .bool false, .pointer (some ⟨b7, 0, none⟩), iV c1.W, .pointer (some ⟨b7, 1, none⟩), iV c1.H, iV (mx c1.W c1.H), .bool false, .bool false, .bool false, .pointer (some ⟨b7, 2, none⟩), .slice A2 c1.At.length c3, iV (c1.At.length : Int), .pointer (some ⟨b7, 0, none⟩), iV c1.W, .pointer (some ⟨b7, 1, none⟩), iV c1.H, iV (w64 (c1.W * c1.H)), .bool false, .bool false, .pointer (some ⟨b7, 2, none⟩), .slice A2 c1.At.length c3, iV (c1.At.length : Int), iV x44, .bool true, .pointer (some ⟨b66, of67 + (x44 : Int).toNat * 3, none⟩), .agg #[iV ((rd c1.At x44).Lo), iV ((rd c1.At x44).Hi), .bool ((rd c1.At x44).Unknown)], .agg #[iV ((rd c1.At x44).Lo), iV ((rd c1.At x44).Hi), .bool ((rd c1.At x44).Unknown)], iV vt79, iV vt79, .bool false, (j43 10), .pointer (some ⟨b69, 0, none⟩), iV ((rd c1.At x44).Lo), .bool false, .bool false, .pointer (some ⟨b69, 1, none⟩), iV ((rd c1.At x44).Hi), .bool (decide (((rd c1.At x44).Hi) > 1099511627776)), .bool (decide (((rd c1.At x44).Hi) > 1099511627776)), (j43 19)], []⟩) (by kernel_rfl) ?_
              refine wpList_nil ?_
              refine hK92 _ _ ?_
              have hq_ := ite_some h; clear h; rcases hq_ with ⟨c97, h⟩ | ⟨c97, h⟩
              · have c97 : ((rd c1.At x44).Hi) > 1099511627776 := c97
                refine wpRwI 49 (x := (decide (((rd c1.At x44).Hi) > 1099511627776))) (v := true) (by kernel_rfl) (decide_eq_true c97) ?_
                refine wpRwI 50 (x := (decide (((rd c1.At x44).Hi) > 1099511627776))) (v := true) (by kernel_rfl) (decide_eq_true c97) ?_
                refine condT (by kernel_rfl) ?_
                refine wp_seq_k (fun K98 hK99 => ?_)
                refine wp_region_lit ?_
                refine seqS1 (a' := ⟨#[.agg #[iV c1.W, iV c1.H, .slice A2 c1.At.length c3], .pointer (some ⟨b7, 0, none⟩), iV 4, uV, .pointer (some ⟨b69, 0, none⟩), iV vt79, .pointer (some ⟨b7, 0, none⟩), iV c1.W, .pointer (some ⟨b7, 1, none⟩), iV c1.H, iV (mn c1.W c1.H), .bool false, .bool false, .pointer (some ⟨b7, 0, none⟩), iV c1.W, .pointer (some ⟨b7, 1, none⟩), iV c1.H, iV (mx c1.W c1.H), .bool false, .bool false, .bool false, .pointer (some ⟨b7, 2, none⟩), .slice A2 c1.At.length c3, iV (c1.At.length : Int), .pointer (some ⟨b7, 0, none⟩), iV c1.W, .pointer (some ⟨b7, 1, none⟩), iV c1.H, iV (w64 (c1.W * c1.H)), .bool false, .bool false, .pointer (some ⟨b7, 2, none⟩), .slice A2 c1.At.length c3, iV (c1.At.length : Int), iV x44, .bool true, .pointer (some ⟨b66, of67 + (x44 : Int).toNat * 3, none⟩), .agg #[iV ((rd c1.At x44).Lo), iV ((rd c1.At x44).Hi), .bool ((rd c1.At x44).Unknown)], .agg #[iV ((rd c1.At x44).Lo), iV ((rd c1.At x44).Hi), .bool ((rd c1.At x44).Unknown)], iV vt79, iV vt79, .bool false, (j43 10), .pointer (some ⟨b69, 0, none⟩), iV ((rd c1.At x44).Lo), .bool false, .bool false, .pointer (some ⟨b69, 1, none⟩), iV ((rd c1.At x44).Hi), .bool true, .bool true, (j43 19)], []⟩) (by kernel_rfl) ?_
                refine wpList_nil ?_
                refine hK99 _ _ ?_
                refine wp_ret ?_
                refine hr56 _ _ ?_
                refine hr32 _ _ ?_
                refine hret _ _ ?_
                refine ends_still (v := Value.int .i64 4) (by kernel_rfl) (by kernel_rfl) ?_
                have HS121 := HS84.drop
                have HS122 := HS121.drop
                replace h := JR107 _ h
                injection h with h
                subst h
                exact ⟨f81, rfl, (L40.trans L82), HS122⟩
              · have c97 : ¬ (((rd c1.At x44).Hi) > 1099511627776) := c97
                refine wpRwI 49 (x := (decide (((rd c1.At x44).Hi) > 1099511627776))) (v := false) (by kernel_rfl) (decide_eq_false c97) ?_
                refine wpRwI 50 (x := (decide (((rd c1.At x44).Hi) > 1099511627776))) (v := false) (by kernel_rfl) (decide_eq_false c97) ?_
                refine condF (by kernel_rfl) ?_
                refine wp_skip ?_
                refine hn55 _ _ ?_
                refine hK52 _ _ ?_
                refine wp_region_lit ?_
                refine seqS2 (a' := ⟨#[.agg #[iV c1.W, iV c1.H, .slice A2 c1.At.length c3], .pointer (some ⟨b7, 0, none⟩), (j43 0), uV, .pointer (some ⟨b69, 0, none⟩), iV vt79, .pointer (some ⟨b7, 0, none⟩), iV c1.W, .pointer (some ⟨b7, 1, none⟩), iV c1.H, iV (mn c1.W c1.H), .bool false, .bool false, .pointer (some ⟨b7, 0, none⟩), iV c1.W, .pointer (some ⟨b7, 1, none⟩), iV c1.H, iV (mx c1.W c1.H), .bool false, .bool false, .bool false, .pointer (some ⟨b7, 2, none⟩), .slice A2 c1.At.length c3, iV (c1.At.length : Int), .pointer (some ⟨b7, 0, none⟩), iV c1.W, .pointer (some ⟨b7, 1, none⟩), iV c1.H, iV (w64 (c1.W * c1.H)), .bool false, .bool false, .pointer (some ⟨b7, 2, none⟩), .slice A2 c1.At.length c3, iV (c1.At.length : Int), iV (w64 (x44 + 1)), .bool true, .pointer (some ⟨b66, of67 + (x44 : Int).toNat * 3, none⟩), .agg #[iV ((rd c1.At x44).Lo), iV ((rd c1.At x44).Hi), .bool ((rd c1.At x44).Unknown)], .agg #[iV ((rd c1.At x44).Lo), iV ((rd c1.At x44).Hi), .bool ((rd c1.At x44).Unknown)], iV vt79, iV vt79, .bool false, (j43 10), .pointer (some ⟨b69, 0, none⟩), iV ((rd c1.At x44).Lo), .bool false, .bool false, .pointer (some ⟨b69, 1, none⟩), iV ((rd c1.At x44).Hi), .bool false, .bool false, iV (w64 (x44 + 1))], []⟩) (by kernel_rfl) ?_
                refine wpList_nil ?_
                refine hK37 n38 _ _ (Nat.lt_succ_self _) ?_
                have HS109 := HS84.u1
                have HS110 := HS109.u1
                have HS111 := HS110.drop
                exact ⟨f81, (w64 (x44 + 1)), (fun i_ => [(j43 0), Value.pointer (some ⟨b69, 0, none⟩), Value.int .i64 vt79, Value.bool true, Value.pointer (some ⟨b66, of67 + (x44 : Int).toNat * 3, none⟩), Value.agg #[.int .i64 ((rd c1.At x44).Lo), .int .i64 ((rd c1.At x44).Hi), .bool ((rd c1.At x44).Unknown)], Value.agg #[.int .i64 ((rd c1.At x44).Lo), .int .i64 ((rd c1.At x44).Hi), .bool ((rd c1.At x44).Unknown)], Value.int .i64 vt79, Value.int .i64 vt79, Value.bool false, (j43 10), Value.pointer (some ⟨b69, 0, none⟩), Value.int .i64 ((rd c1.At x44).Lo), Value.bool false, Value.bool false, Value.pointer (some ⟨b69, 1, none⟩), Value.int .i64 ((rd c1.At x44).Hi), Value.bool false, Value.bool false, Value.int .i64 (w64 (x44 + 1))].getD i_ undef), (L40.trans L82), HS111, h, (by kernel_rfl)⟩
        · have c50 : ¬ (x44 < (c1.At.length : Int)) := c50
          refine wpRwI 35 (x := (decide (x44 < (c1.At.length : Int)))) (v := false) (by kernel_rfl) (decide_eq_false c50) ?_
          refine condF (by kernel_rfl) ?_
          refine wp_exit ?_
          refine hx30 _ _ ?_
          exact J106 f39 (fun i_ => [(j43 0), (j43 1), (j43 2), Value.int .i64 x44, Value.bool false, (j43 4), (j43 5), (j43 6), (j43 7), (j43 8), (j43 9), (j43 10), (j43 11), (j43 12), (j43 13), (j43 14), (j43 15), (j43 16), (j43 17), (j43 18), (j43 19)].getD i_ undef) W41 _ L40 h HS42 (by kernel_rfl)

set_option maxRecDepth 100000 in
set_option maxHeartbeats 4000000 in
theorem cmp_isNaN_Quanta.calls (k : Nat)  (x1 : Int) {t w : World} {f : FM} {H : List Seg} (HS : St t w f (H)) (r1 : Bool) (h : cmp_isNaN_Quanta k x1 = some r1) :
    Calls Try.prog 100 #[.int .i64 x1] w (fun e w' => ∃ (g : FM), e = .returned (Value.bool r1) ∧ FM.le f g ∧ St t w' g (H)) := by
  unfold cmp_isNaN_Quanta at h
  refine enter Try.func100 rfl (tm := #[iV x1, uV, uV, uV, uV, uV]) (by kernel_rfl) ?_
  intro B hret hnor hnp
  refine wp_seq_k (fun K2 hK3 => ?_)
  refine wp_region_lit ?_
  refine seqS1 (a' := ⟨#[iV x1, uV, .bool false, uV, uV, uV], []⟩) (by kernel_rfl) ?_
  refine wpList_nil ?_
  refine hK3 _ _ ?_
  refine wp_seq_k (fun K4 hK5 => ?_)
  refine wp_region_lit ?_
  refine seqS4 (a' := ⟨#[iV x1, uV, .bool (x1 != x1), iV x1, iV x1, .bool (x1 != x1)], []⟩) (by kernel_rfl) ?_
  refine wpList_nil ?_
  refine hK5 _ _ ?_
  refine wp_ret ?_
  refine hret _ _ ?_
  refine ends_still (v := Value.bool (x1 != x1)) (by kernel_rfl) (by kernel_rfl) ?_
  injection h with h
  subst h
  exact ⟨f, rfl, FM.le.refl _, HS⟩

set_option maxRecDepth 100000 in
set_option maxHeartbeats 4000000 in
theorem cmp_Compare_Quanta.calls (k : Nat)  (x1 : Int) (y2 : Int) {t w : World} {f : FM} {H : List Seg} (HS : St t w f (H)) (r1 : Int) (h : cmp_Compare_Quanta k x1 y2 = some r1) :
    Calls Try.prog 67 #[.int .i64 x1, .int .i64 y2] w (fun e w' => ∃ (g : FM), e = .returned (Value.int .i64 r1) ∧ FM.le f g ∧ St t w' g (H)) := by
  unfold cmp_Compare_Quanta at h
  refine enter Try.func67 rfl (tm := #[iV x1, iV y2, uV, uV, uV, uV, uV, uV, uV, uV, uV, uV, uV, uV, uV, uV, uV, uV, uV, uV]) (by kernel_rfl) ?_
  intro B hret hnor hnp
  refine wp_seq_k (fun K3 hK4 => ?_)
  refine wp_region_lit ?_
  refine seqS1 (a' := ⟨#[iV x1, iV y2, uV, uV, iV 0, uV, uV, uV, uV, uV, uV, uV, uV, uV, uV, uV, uV, uV, uV, uV], []⟩) (by kernel_rfl) ?_
  refine wpList_nil ?_
  refine hK4 _ _ ?_
  refine wp_seq_k (fun K5 hK6 => ?_)
  refine wp_region_lit ?_
  have hq_ := bind_some h; clear h; obtain ⟨vt7, hc8, h⟩ := hq_
  refine seqL1 (by kernel_rfl) ?_
  refine seqK rfl (does_call (f := 100) (args := #[.int .i64 x1]) (by kernel_rfl) (cmp_isNaN_Quanta.calls k x1 HS vt7 hc8) ?_)
  rintro _ W11 ⟨f9, rfl, L10, HS12⟩
  refine ⟨_, rfl, ?_⟩
  refine seqS1 (a' := ⟨#[iV x1, iV y2, uV, uV, iV 0, .bool vt7, uV, iV x1, .bool vt7, uV, uV, uV, uV, uV, uV, uV, uV, uV, uV, uV], []⟩) (by kernel_rfl) ?_
  refine wpList_nil ?_
  refine hK6 _ _ ?_
  refine wp_seq_k (fun K13 hK14 => ?_)
  refine wp_region_lit ?_
  have hq_ := bind_some h; clear h; obtain ⟨vt15, hc16, h⟩ := hq_
  refine seqL1 (by kernel_rfl) ?_
  refine seqK rfl (does_call (f := 100) (args := #[.int .i64 y2]) (by kernel_rfl) (cmp_isNaN_Quanta.calls k y2 HS12 vt15 hc16) ?_)
  rintro _ W19 ⟨f17, rfl, L18, HS20⟩
  refine ⟨_, rfl, ?_⟩
  refine seqS1 (a' := ⟨#[iV x1, iV y2, uV, uV, iV 0, .bool vt7, .bool vt15, iV x1, .bool vt7, iV y2, .bool vt15, uV, uV, uV, uV, uV, uV, uV, uV, uV], []⟩) (by kernel_rfl) ?_
  refine wpList_nil ?_
  refine hK14 _ _ ?_
  refine wp_seq_k (fun K21 hK22 => ?_)
  refine wp_seq_k (fun K23 hK24 => ?_)
  refine wp_region_lit ?_
  refine seqS1 (a' := ⟨#[iV x1, iV y2, uV, uV, iV 0, .bool vt7, .bool vt15, iV x1, .bool vt7, iV y2, .bool vt15, .bool vt7, uV, uV, uV, uV, uV, uV, uV, uV], []⟩) (by kernel_rfl) ?_
  refine wpList_nil ?_
  refine hK24 _ _ ?_
  have hq_ := ite_some h; clear h; rcases hq_ with ⟨c26, h⟩ | ⟨c26, h⟩
  · have c26 : vt7 = true := c26
    refine wpRwI 5 (x := vt7) (v := true) (by kernel_rfl) c26 ?_
    refine wpRwI 8 (x := vt7) (v := true) (by kernel_rfl) c26 ?_
    refine wpRwI 11 (x := vt7) (v := true) (by kernel_rfl) c26 ?_
    refine condT (by kernel_rfl) ?_
    refine wp_seq_k (fun K27 hK28 => ?_)
    refine wp_seq_k (fun K29 hK30 => ?_)
    refine wp_region_lit ?_
    refine seqS1 (a' := ⟨#[iV x1, iV y2, uV, uV, iV 0, .bool true, .bool vt15, iV x1, .bool true, iV y2, .bool vt15, .bool true, .bool vt15, uV, uV, uV, uV, uV, uV, uV], []⟩) (by kernel_rfl) ?_
    refine wpList_nil ?_
    refine hK30 _ _ ?_
    have hq_ := ite_some h; clear h; rcases hq_ with ⟨c32, h⟩ | ⟨c32, h⟩
    · have c32 : vt15 = true := c32
      refine wpRwI 6 (x := vt15) (v := true) (by kernel_rfl) c32 ?_
      refine wpRwI 10 (x := vt15) (v := true) (by kernel_rfl) c32 ?_
      refine wpRwI 12 (x := vt15) (v := true) (by kernel_rfl) c32 ?_
      refine condT (by kernel_rfl) ?_
      refine wp_seq_k (fun K33 hK34 => ?_)
      refine wp_region_lit ?_
      refine seqS1 (a' := ⟨#[iV x1, iV y2, uV, uV, iV 0, .bool true, .bool true, iV x1, .bool true, iV y2, .bool true, .bool true, .bool true, uV, uV, uV, uV, uV, uV, uV], []⟩) (by kernel_rfl) ?_
      refine wpList_nil ?_
      refine hK34 _ _ ?_
      refine wp_ret ?_
      refine hret _ _ ?_
      refine ends_still (v := Value.int .i64 0) (by kernel_rfl) (by kernel_rfl) ?_
      injection h with h
      subst h
      exact ⟨f17, rfl, (L10.trans L18), HS20⟩
    · have c32 : ¬ (vt15 = true) := c32
      refine wpRwI 6 (x := vt15) (v := false) (by kernel_rfl) (Bool.eq_false_iff.mpr c32) ?_
      refine wpRwI 10 (x := vt15) (v := false) (by kernel_rfl) (Bool.eq_false_iff.mpr c32) ?_
      refine wpRwI 12 (x := vt15) (v := false) (by kernel_rfl) (Bool.eq_false_iff.mpr c32) ?_
      refine condF (by kernel_rfl) ?_
      refine wp_skip ?_
      refine hK28 _ _ ?_
      refine wp_seq_k (fun K35 hK36 => ?_)
      refine wp_region_lit ?_
      refine seqS1 (a' := ⟨#[iV x1, iV y2, uV, uV, iV (-1), .bool true, .bool false, iV x1, .bool true, iV y2, .bool false, .bool true, .bool false, uV, uV, uV, uV, uV, uV, uV], []⟩) (by kernel_rfl) ?_
      refine wpList_nil ?_
      refine hK36 _ _ ?_
      refine wp_ret ?_
      refine hret _ _ ?_
      refine ends_still (v := Value.int .i64 (-1)) (by kernel_rfl) (by kernel_rfl) ?_
      injection h with h
      subst h
      exact ⟨f17, rfl, (L10.trans L18), HS20⟩
  · have c26 : ¬ (vt7 = true) := c26
    refine wpRwI 5 (x := vt7) (v := false) (by kernel_rfl) (Bool.eq_false_iff.mpr c26) ?_
    refine wpRwI 8 (x := vt7) (v := false) (by kernel_rfl) (Bool.eq_false_iff.mpr c26) ?_
    refine wpRwI 11 (x := vt7) (v := false) (by kernel_rfl) (Bool.eq_false_iff.mpr c26) ?_
    refine condF (by kernel_rfl) ?_
    refine wp_skip ?_
    refine hK22 _ _ ?_
    refine wp_seq_k (fun K37 hK38 => ?_)
    refine wp_seq_k (fun K39 hK40 => ?_)
    refine wp_region_lit ?_
    refine seqS1 (a' := ⟨#[iV x1, iV y2, uV, uV, iV 0, .bool false, .bool vt15, iV x1, .bool false, iV y2, .bool vt15, .bool false, uV, .bool vt15, uV, uV, uV, uV, uV, uV], []⟩) (by kernel_rfl) ?_
    refine wpList_nil ?_
    refine hK40 _ _ ?_
    have hq_ := ite_some h; clear h; rcases hq_ with ⟨c42, h⟩ | ⟨c42, h⟩
    · have c42 : vt15 = true := c42
      refine wpRwI 6 (x := vt15) (v := true) (by kernel_rfl) c42 ?_
      refine wpRwI 10 (x := vt15) (v := true) (by kernel_rfl) c42 ?_
      refine wpRwI 13 (x := vt15) (v := true) (by kernel_rfl) c42 ?_
      refine condT (by kernel_rfl) ?_
      refine wp_seq_k (fun K43 hK44 => ?_)
      refine wp_region_lit ?_
      refine seqS1 (a' := ⟨#[iV x1, iV y2, uV, uV, iV 1, .bool false, .bool true, iV x1, .bool false, iV y2, .bool true, .bool false, uV, .bool true, uV, uV, uV, uV, uV, uV], []⟩) (by kernel_rfl) ?_
      refine wpList_nil ?_
      refine hK44 _ _ ?_
      refine wp_ret ?_
      refine hret _ _ ?_
      refine ends_still (v := Value.int .i64 1) (by kernel_rfl) (by kernel_rfl) ?_
      injection h with h
      subst h
      exact ⟨f17, rfl, (L10.trans L18), HS20⟩
    · have c42 : ¬ (vt15 = true) := c42
      refine wpRwI 6 (x := vt15) (v := false) (by kernel_rfl) (Bool.eq_false_iff.mpr c42) ?_
      refine wpRwI 10 (x := vt15) (v := false) (by kernel_rfl) (Bool.eq_false_iff.mpr c42) ?_
      refine wpRwI 13 (x := vt15) (v := false) (by kernel_rfl) (Bool.eq_false_iff.mpr c42) ?_
      refine condF (by kernel_rfl) ?_
      refine wp_skip ?_
      refine hK38 _ _ ?_
      refine wp_seq_k (fun K45 hK46 => ?_)
      refine wp_seq_k (fun K47 hK48 => ?_)
      refine wp_region_lit ?_
      refine seqS3 (a' := ⟨#[iV x1, iV y2, uV, uV, iV 0, .bool false, .bool false, iV x1, .bool false, iV y2, .bool false, .bool false, uV, .bool false, iV x1, iV y2, .bool (decide (x1 < y2)), uV, uV, uV], []⟩) (by kernel_rfl) ?_
      refine wpList_nil ?_
      refine hK48 _ _ ?_
      have hq_ := ite_some h; clear h; rcases hq_ with ⟨c50, h⟩ | ⟨c50, h⟩
      · have c50 : x1 < y2 := c50
        refine wpRwI 16 (x := (decide (x1 < y2))) (v := true) (by kernel_rfl) (decide_eq_true c50) ?_
        refine condT (by kernel_rfl) ?_
        refine wp_seq_k (fun K51 hK52 => ?_)
        refine wp_region_lit ?_
        refine seqS1 (a' := ⟨#[iV x1, iV y2, uV, uV, iV (-1), .bool false, .bool false, iV x1, .bool false, iV y2, .bool false, .bool false, uV, .bool false, iV x1, iV y2, .bool true, uV, uV, uV], []⟩) (by kernel_rfl) ?_
        refine wpList_nil ?_
        refine hK52 _ _ ?_
        refine wp_ret ?_
        refine hret _ _ ?_
        refine ends_still (v := Value.int .i64 (-1)) (by kernel_rfl) (by kernel_rfl) ?_
        injection h with h
        subst h
        exact ⟨f17, rfl, (L10.trans L18), HS20⟩
      · have c50 : ¬ (x1 < y2) := c50
        refine wpRwI 16 (x := (decide (x1 < y2))) (v := false) (by kernel_rfl) (decide_eq_false c50) ?_
        refine condF (by kernel_rfl) ?_
        refine wp_skip ?_
        refine hK46 _ _ ?_
        refine wp_seq_k (fun K53 hK54 => ?_)
        refine wp_seq_k (fun K55 hK56 => ?_)
        refine wp_region_lit ?_
        refine seqS3 (a' := ⟨#[iV x1, iV y2, uV, uV, iV 0, .bool false, .bool false, iV x1, .bool false, iV y2, .bool false, .bool false, uV, .bool false, iV x1, iV y2, .bool false, iV x1, iV y2, .bool (decide (x1 > y2))], []⟩) (by kernel_rfl) ?_
        refine wpList_nil ?_
        refine hK56 _ _ ?_
        have hq_ := ite_some h; clear h; rcases hq_ with ⟨c58, h⟩ | ⟨c58, h⟩
        · have c58 : x1 > y2 := c58
          refine wpRwI 19 (x := (decide (x1 > y2))) (v := true) (by kernel_rfl) (decide_eq_true c58) ?_
          refine condT (by kernel_rfl) ?_
          refine wp_seq_k (fun K59 hK60 => ?_)
          refine wp_region_lit ?_
          refine seqS1 (a' := ⟨#[iV x1, iV y2, uV, uV, iV 1, .bool false, .bool false, iV x1, .bool false, iV y2, .bool false, .bool false, uV, .bool false, iV x1, iV y2, .bool false, iV x1, iV y2, .bool true], []⟩) (by kernel_rfl) ?_
          refine wpList_nil ?_
          refine hK60 _ _ ?_
          refine wp_ret ?_
          refine hret _ _ ?_
          refine ends_still (v := Value.int .i64 1) (by kernel_rfl) (by kernel_rfl) ?_
          injection h with h
          subst h
          exact ⟨f17, rfl, (L10.trans L18), HS20⟩
        · have c58 : ¬ (x1 > y2) := c58
          refine wpRwI 19 (x := (decide (x1 > y2))) (v := false) (by kernel_rfl) (decide_eq_false c58) ?_
          refine condF (by kernel_rfl) ?_
          refine wp_skip ?_
          refine hK54 _ _ ?_
          refine wp_seq_k (fun K61 hK62 => ?_)
          refine wp_region_lit ?_
          refine seqS1 (a' := ⟨#[iV x1, iV y2, uV, uV, iV 0, .bool false, .bool false, iV x1, .bool false, iV y2, .bool false, .bool false, uV, .bool false, iV x1, iV y2, .bool false, iV x1, iV y2, .bool false], []⟩) (by kernel_rfl) ?_
          refine wpList_nil ?_
          refine hK62 _ _ ?_
          refine wp_ret ?_
          refine hret _ _ ?_
          refine ends_still (v := Value.int .i64 0) (by kernel_rfl) (by kernel_rfl) ?_
          injection h with h
          subst h
          exact ⟨f17, rfl, (L10.trans L18), HS20⟩

set_option maxRecDepth 100000 in
set_option maxHeartbeats 4000000 in
theorem level_known_1.calls (k : Nat) (b1 : Nat) (A4 : Option Addr) (c5 : Nat) (v3 : S_Cells) (i7 : Int) (j8 : Int) {t w : World} {f : FM} {H : List Seg} (HS : St t w f ([(b1, .cells #[.int .i64 v3.W, .int .i64 v3.H, .slice A4 v3.At.length c5] 34 (0, 0))] :: H)) (HR6 : SlR ty_Bound f A4 c5 v3.At) (r1 : Int) (h : level_known_1 k v3 i7 j8 = some r1) :
    Calls Try.prog 99 #[.int .i64 i7, .int .i64 j8, .pointer (some ⟨b1, 0, none⟩)] w (fun e w' => ∃ (g : FM), e = .returned (Value.int .i64 r1) ∧ FM.le f g ∧ St t w' g ([(b1, .cells #[.int .i64 v3.W, .int .i64 v3.H, .slice A4 v3.At.length c5] 34 (0, 0))] :: H)) := by
  unfold level_known_1 at h
  refine enter Try.func99 rfl (tm := #[iV i7, iV j8, .pointer (some ⟨b1, 0, none⟩), uV, uV, uV, uV, uV, uV, uV, uV, uV, uV, uV, uV, uV, uV, uV, uV]) (by kernel_rfl) ?_
  intro B hret hnor hnp
  refine wp_seq_k (fun K9 hK10 => ?_)
  refine wp_region_lit ?_
  refine seqS1 (a' := ⟨#[iV i7, iV j8, .pointer (some ⟨b1, 0, none⟩), uV, uV, iV 0, uV, uV, uV, uV, uV, uV, uV, uV, uV, uV, uV, uV, uV], []⟩) (by kernel_rfl) ?_
  refine wpList_nil ?_
  refine hK10 _ _ ?_
  refine wp_seq_k (fun K11 hK12 => ?_)
  refine heldG (S := Sg t f ([(b1, .cells #[.int .i64 v3.W, .int .i64 v3.H, .slice A4 v3.At.length c5] 34 (0, 0))] :: H) []) (n := 14) (by kernel_rfl) rfl HS ?_
  intro W13 HS14
  refine takeG [0] (n := 14) (fuel := 13) (l' := #[true, false, false, false, false, false, false, false, false, false, false, false, false, false]) (a' := ⟨#[iV i7, iV j8, .pointer (some ⟨b1, 0, none⟩), uV, uV, iV 0, .pointer (some ⟨b1, 2, none⟩), uV, uV, uV, uV, uV, uV, uV, uV, uV, uV, uV, uV], []⟩) rfl (by kernel_rfl) (by kernel_rfl) (by kernel_rfl) hnp (Sg.g0 (Sx.of [] (FM.le.refl _) HS14)) ?_
  refine takeGQ 1 [] rfl (by kernel_rfl) (by kernel_rfl) (by kernel_rfl) (by kernel_rfl) (by kernel_rfl) (by kernel_rfl) hnp (Sg.g0 (Sx.of [] (FM.le.refl _) HS14)) (fun w_ hw_ => by obtain ⟨g_, hl_, hS_⟩ := hw_.st; exact run_load rfl Try.underlying32 rfl (by kernel_rfl : _ = Value.pointer (some ⟨b1, 2, none⟩)) (hS_.cell 2)) ?_
  have hq_ := guard_some h; clear h; obtain ⟨c15, h⟩ := hq_
  have c15 : 0 ≤ i7 := c15
  have hq_ := guard_some h; clear h; obtain ⟨c16, h⟩ := hq_
  have c16 : i7 < (v3.At.length : Int) := c16
  obtain ⟨b20, of21, cs17, hA22, hr18, hc19⟩ := HR6.at (i := i7) c15 c16
  obtain rfl := hr18
  refine takeG [2] (n := 12) (fuel := 11) (l' := #[true, true, true, false, false, false, false, false, false, false, false, false, false, false]) (a' := ⟨#[iV i7, iV j8, .pointer (some ⟨b1, 0, none⟩), uV, uV, iV 0, .pointer (some ⟨b1, 2, none⟩), .slice A4 v3.At.length c5, iV i7, uV, uV, uV, uV, uV, uV, uV, uV, uV, uV], []⟩) rfl (by kernel_rfl) (by kernel_rfl) (by kernel_rfl) hnp (Sg.g0 (Sx.of [] (FM.le.refl _) HS14)) ?_
  refine takeGQ 3 [] rfl (by kernel_rfl) (by kernel_rfl) (by kernel_rfl) (by kernel_rfl) (by kernel_rfl) (by kernel_rfl) hnp (Sg.g0 (Sx.of [] (FM.le.refl _) HS14)) (fun w_ hw_ => by obtain ⟨g_, hl_, hS_⟩ := hw_.st; exact run_indexE hA22 (sz := 3) rfl Try.underlying32 (by kernel_rfl) (by kernel_rfl : _ = Value.slice A4 v3.At.length c5) (by kernel_rfl : _ = Value.int .i64 i7) c15 c16 w_) ?_
  refine takeG [4] (n := 10) (fuel := 9) (l' := #[true, true, true, true, true, false, false, false, false, false, false, false, false, false]) (a' := ⟨#[iV i7, iV j8, .pointer (some ⟨b1, 0, none⟩), uV, uV, iV 0, .pointer (some ⟨b1, 2, none⟩), .slice A4 v3.At.length c5, iV i7, .pointer (some ⟨b20, of21 + (i7 : Int).toNat * 3, none⟩), .pointer (some ⟨b20, of21 + (i7 : Int).toNat * 3, none⟩), uV, uV, uV, uV, uV, uV, uV, uV], []⟩) rfl (by kernel_rfl) (by kernel_rfl) (by kernel_rfl) hnp (Sg.g0 (Sx.of [] (FM.le.refl _) HS14)) ?_
  refine takeGQ 5 [] rfl (by kernel_rfl) (by kernel_rfl) (by kernel_rfl) (by kernel_rfl) (by kernel_rfl) (by kernel_rfl) hnp (Sg.g0 (Sx.of [] (FM.le.refl _) HS14)) (fun w_ hw_ => by obtain ⟨g_, hl_, hS_⟩ := hw_.st; exact run_load rfl Try.underlying42 rfl (by kernel_rfl : _ = Value.pointer (some ⟨b20, of21 + (i7 : Int).toNat * 3, none⟩)) ((hc19 hl_ hS_) 0 (by decide))) ?_
  refine takeG [6] (n := 8) (fuel := 7) (l' := #[true, true, true, true, true, true, true, false, false, false, false, false, false, false]) (a' := ⟨#[iV i7, iV j8, .pointer (some ⟨b1, 0, none⟩), uV, uV, iV 0, .pointer (some ⟨b1, 2, none⟩), .slice A4 v3.At.length c5, iV i7, .pointer (some ⟨b20, of21 + (i7 : Int).toNat * 3, none⟩), .pointer (some ⟨b20, of21 + (i7 : Int).toNat * 3, none⟩), iV ((rd v3.At i7).Lo), .pointer (some ⟨b1, 2, none⟩), uV, uV, uV, uV, uV, uV], []⟩) rfl (by kernel_rfl) (by kernel_rfl) (by kernel_rfl) hnp (Sg.g0 (Sx.of [] (FM.le.refl _) HS14)) ?_
  refine takeGQ 7 [] rfl (by kernel_rfl) (by kernel_rfl) (by kernel_rfl) (by kernel_rfl) (by kernel_rfl) (by kernel_rfl) hnp (Sg.g0 (Sx.of [] (FM.le.refl _) HS14)) (fun w_ hw_ => by obtain ⟨g_, hl_, hS_⟩ := hw_.st; exact run_load rfl Try.underlying32 rfl (by kernel_rfl : _ = Value.pointer (some ⟨b1, 2, none⟩)) (hS_.cell 2)) ?_
  have hq_ := guard_some h; clear h; obtain ⟨c23, h⟩ := hq_
  have c23 : 0 ≤ j8 := c23
  have hq_ := guard_some h; clear h; obtain ⟨c24, h⟩ := hq_
  have c24 : j8 < (v3.At.length : Int) := c24
  obtain ⟨b28, of29, cs25, hA30, hr26, hc27⟩ := HR6.at (i := j8) c23 c24
  obtain rfl := hr26
  refine takeG [8] (n := 6) (fuel := 5) (l' := #[true, true, true, true, true, true, true, true, true, false, false, false, false, false]) (a' := ⟨#[iV i7, iV j8, .pointer (some ⟨b1, 0, none⟩), uV, uV, iV 0, .pointer (some ⟨b1, 2, none⟩), .slice A4 v3.At.length c5, iV i7, .pointer (some ⟨b20, of21 + (i7 : Int).toNat * 3, none⟩), .pointer (some ⟨b20, of21 + (i7 : Int).toNat * 3, none⟩), iV ((rd v3.At i7).Lo), .pointer (some ⟨b1, 2, none⟩), .slice A4 v3.At.length c5, iV j8, uV, uV, uV, uV], []⟩) rfl (by kernel_rfl) (by kernel_rfl) (by kernel_rfl) hnp (Sg.g0 (Sx.of [] (FM.le.refl _) HS14)) ?_
  refine takeGQ 9 [] rfl (by kernel_rfl) (by kernel_rfl) (by kernel_rfl) (by kernel_rfl) (by kernel_rfl) (by kernel_rfl) hnp (Sg.g0 (Sx.of [] (FM.le.refl _) HS14)) (fun w_ hw_ => by obtain ⟨g_, hl_, hS_⟩ := hw_.st; exact run_indexE hA30 (sz := 3) rfl Try.underlying32 (by kernel_rfl) (by kernel_rfl : _ = Value.slice A4 v3.At.length c5) (by kernel_rfl : _ = Value.int .i64 j8) c23 c24 w_) ?_
  refine takeG [10] (n := 4) (fuel := 3) (l' := #[true, true, true, true, true, true, true, true, true, true, true, false, false, false]) (a' := ⟨#[iV i7, iV j8, .pointer (some ⟨b1, 0, none⟩), uV, uV, iV 0, .pointer (some ⟨b1, 2, none⟩), .slice A4 v3.At.length c5, iV i7, .pointer (some ⟨b20, of21 + (i7 : Int).toNat * 3, none⟩), .pointer (some ⟨b20, of21 + (i7 : Int).toNat * 3, none⟩), iV ((rd v3.At i7).Lo), .pointer (some ⟨b1, 2, none⟩), .slice A4 v3.At.length c5, iV j8, .pointer (some ⟨b28, of29 + (j8 : Int).toNat * 3, none⟩), .pointer (some ⟨b28, of29 + (j8 : Int).toNat * 3, none⟩), uV, uV], []⟩) rfl (by kernel_rfl) (by kernel_rfl) (by kernel_rfl) hnp (Sg.g0 (Sx.of [] (FM.le.refl _) HS14)) ?_
  refine takeGQ 11 [] rfl (by kernel_rfl) (by kernel_rfl) (by kernel_rfl) (by kernel_rfl) (by kernel_rfl) (by kernel_rfl) hnp (Sg.g0 (Sx.of [] (FM.le.refl _) HS14)) (fun w_ hw_ => by obtain ⟨g_, hl_, hS_⟩ := hw_.st; exact run_load rfl Try.underlying42 rfl (by kernel_rfl : _ = Value.pointer (some ⟨b28, of29 + (j8 : Int).toNat * 3, none⟩)) ((hc27 hl_ hS_) 0 (by decide))) ?_
  have hq_ := bind_some h; clear h; obtain ⟨vt31, hc32, h⟩ := hq_
  refine takeGE 12 (by kernel_rfl) rfl (by kernel_rfl) (does_call (f := 67) (args := #[.int .i64 ((rd v3.At i7).Lo), .int .i64 ((rd v3.At j8).Lo)]) (by kernel_rfl) (cmp_Compare_Quanta.calls k ((rd v3.At i7).Lo) ((rd v3.At j8).Lo) HS14 vt31 hc32) ?_)
  rintro _ W35 ⟨f33, rfl, L34, HS36⟩
  refine ⟨_, rfl, ?_⟩
  refine ⟨(Sg.g0 (Sx.of [] L34 HS36)), ?_⟩
  refine takeG [13] (n := 1) (fuel := 0) (l' := #[true, true, true, true, true, true, true, true, true, true, true, true, true, true]) (a' := ⟨#[iV i7, iV j8, .pointer (some ⟨b1, 0, none⟩), uV, uV, iV vt31, .pointer (some ⟨b1, 2, none⟩), .slice A4 v3.At.length c5, iV i7, .pointer (some ⟨b20, of21 + (i7 : Int).toNat * 3, none⟩), .pointer (some ⟨b20, of21 + (i7 : Int).toNat * 3, none⟩), iV ((rd v3.At i7).Lo), .pointer (some ⟨b1, 2, none⟩), .slice A4 v3.At.length c5, iV j8, .pointer (some ⟨b28, of29 + (j8 : Int).toNat * 3, none⟩), .pointer (some ⟨b28, of29 + (j8 : Int).toNat * 3, none⟩), iV ((rd v3.At j8).Lo), iV vt31], []⟩) rfl (by kernel_rfl) (by kernel_rfl) (by kernel_rfl) hnp (Sg.g0 (Sx.of [] L34 HS36)) ?_
  refine doneG (by kernel_rfl) ?_ _
  refine hK12 _ _ ?_
  refine wp_ret ?_
  refine hret _ _ ?_
  refine ends_still (v := Value.int .i64 vt31) (by kernel_rfl) (by kernel_rfl) ?_
  injection h with h
  subst h
  exact ⟨f33, rfl, L34, HS36⟩

set_option maxRecDepth 100000 in
set_option maxHeartbeats 4000000 in
theorem slices_insertionSortCmpFunc_int__level_known_1.calls (k : Nat) (b1 : Nat) (A4 : Option Addr) (c5 : Nat) (A7 : Option Addr) (c8 : Nat) (s9 : Seg) (v3 : S_Cells) (data11 : List Int) (a13 : Int) (b14 : Int) {t w : World} {f : FM} {H : List Seg} (HS : St t w f ([(b1, .cells #[.int .i64 v3.W, .int .i64 v3.H, .slice A4 v3.At.length c5] 34 (0, 0))] :: s9 :: H)) (HR6 : SlR ty_Bound f A4 c5 v3.At) (HO10 : Own (tInt .i64) 3 f A7 c8 s9 data11) (r1 : List Int) (h : slices_insertionSortCmpFunc_int__level_known_1 k v3 data11 a13 b14 = some r1) :
    Calls Try.prog 136 #[.slice A7 data11.length c8, .int .i64 a13, .int .i64 b14, .func (.func 99) #[] #[.pointer (some ⟨b1, 0, none⟩)]] w (fun e w' => ∃ (g : FM) (s411 : Seg), e = .returned (Value.tuple #[]) ∧ FM.le f g ∧ St t w' g ([(b1, .cells #[.int .i64 v3.W, .int .i64 v3.H, .slice A4 v3.At.length c5] 34 (0, 0))] :: s411 :: H) ∧ Own (tInt .i64) 3 g A7 c8 s411 r1 ∧ r1.length = data11.length) := by
  unfold slices_insertionSortCmpFunc_int__level_known_1 at h
  refine enter Try.func136 rfl (tm := #[.slice A7 data11.length c8, iV a13, iV b14, .func (.func 99) #[] #[.pointer (some ⟨b1, 0, none⟩)], uV, uV, uV, uV, uV, uV, uV, uV, uV, uV, uV, uV, uV, uV, uV, uV, uV, uV, uV, uV, uV, uV, uV, uV, uV, uV, uV, uV, uV, uV, uV, uV, uV, uV, uV, uV, uV, uV, uV, uV, uV, uV, uV, uV, uV, uV, uV, uV, uV]) (by kernel_rfl) ?_
  intro B hret hnor hnp
  refine wp_seq_k (fun K15 hK16 => ?_)
  refine wp_region_lit ?_
  refine seqS3 (a' := ⟨#[.slice A7 data11.length c8, iV a13, iV b14, .func (.func 99) #[] #[.pointer (some ⟨b1, 0, none⟩)], uV, uV, uV, uV, iV (w64 (a13 + 1)), uV, iV a13, iV (w64 (a13 + 1)), uV, uV, uV, uV, uV, uV, uV, uV, uV, uV, uV, uV, uV, uV, uV, uV, uV, uV, uV, uV, uV, uV, uV, uV, uV, uV, uV, uV, uV, uV, uV, uV, uV, uV, uV, uV, uV, uV, uV, uV, uV], []⟩) (by kernel_rfl) ?_
  refine wpList_nil ?_
  refine hK16 _ _ ?_
  refine blockK (fun B17 hx18 hn19 hr20 ho21 hp22 => ?_)
  have hq_ := bind_some h; clear h; obtain ⟨o209, hv408, h⟩ := hq_
  have J409 : ∀ (f399 : FM) (s405 : Seg) (data404 : List Int) (j403 : Nat → Value) (W401 : World) (a_ : Act), FM.le f f399 → some (data404) = some o209 → St t W401 f399 ([(b1, .cells #[.int .i64 v3.W, .int .i64 v3.H, .slice A4 v3.At.length c5] 34 (0, 0))] :: s405 :: H) → Own (tInt .i64) 3 f399 A7 c8 s405 data404 → data404.length = data11.length → a_ = ⟨#[.slice A7 data404.length c8, iV a13, iV b14, .func (.func 99) #[] #[.pointer (some ⟨b1, 0, none⟩)], uV, uV, uV, uV, (j403 0), (j403 1), iV a13, iV (w64 (a13 + 1)), (j403 2), (j403 3), (j403 4), (j403 5), (j403 6), (j403 7), (j403 8), (j403 9), (j403 10), (j403 11), (j403 12), (j403 13), (j403 14), (j403 15), (j403 16), (j403 17), (j403 18), (j403 19), (j403 20), (j403 21), (j403 22), (j403 23), (j403 24), (j403 25), (j403 26), (j403 27), (j403 28), (j403 29), (j403 30), (j403 31), (j403 32), (j403 33), (j403 34), (j403 35), (j403 36), (j403 37), (j403 38), (j403 39), (j403 40), (j403 41), (j403 42)], []⟩ → B Exit.normal a_ W401 := by
    intro f399 s405 data404 j403 W401 a_ L400 hj410 HS402 HO406 HL407 hfr_; subst hfr_
    injection hj410 with hj410; subst hj410; try dsimp only at h
    refine hnor _ _ ?_
    refine ends_still (v := Value.tuple #[]) (by kernel_rfl) (by kernel_rfl) ?_
    injection h with h
    subst h
    exact ⟨f399, s405, rfl, L400, HS402, HO406, HL407⟩
  clear h; have h := hv408; clear hv408
  refine loopK (fun n_ a_ w_ => ∃ (f213 : FM) (s219 : Seg) (data218 : List Int) (i222 : Int) (j217 : Nat → Value), FM.le f f213 ∧ St t w_ f213 ([(b1, .cells #[.int .i64 v3.W, .int .i64 v3.H, .slice A4 v3.At.length c5] 34 (0, 0))] :: s219 :: H) ∧ Own (tInt .i64) 3 f213 A7 c8 s219 data218 ∧ data218.length = data11.length ∧ slices_insertionSortCmpFunc_int__level_known_1.l0 k b14 a13 v3 n_ data218 i222 = some o209 ∧ a_ = ⟨#[.slice A7 data218.length c8, iV a13, iV b14, .func (.func 99) #[] #[.pointer (some ⟨b1, 0, none⟩)], uV, uV, uV, uV, iV i222, (j217 0), iV a13, iV (w64 (a13 + 1)), (j217 1), (j217 2), (j217 3), (j217 4), (j217 5), (j217 6), (j217 7), (j217 8), (j217 9), (j217 10), (j217 11), (j217 12), (j217 13), (j217 14), (j217 15), (j217 16), (j217 17), (j217 18), (j217 19), (j217 20), (j217 21), (j217 22), (j217 23), (j217 24), (j217 25), (j217 26), (j217 27), (j217 28), (j217 29), (j217 30), (j217 31), (j217 32), (j217 33), (j217 34), (j217 35), (j217 36), (j217 37), (j217 38), (j217 39), (j217 40), (j217 41)], []⟩) k ⟨f, s9, data11, (w64 (a13 + 1)), (fun i_ => [undef, undef, undef, undef, undef, undef, undef, undef, undef, undef, undef, undef, undef, undef, undef, undef, undef, undef, undef, undef, undef, undef, undef, undef, undef, undef, undef, undef, undef, undef, undef, undef, undef, undef, undef, undef, undef, undef, undef, undef, undef, undef].getD i_ undef), (FM.le.refl _), HS, HO10, rfl, h, (by kernel_rfl)⟩ ?_
  clear h
  rintro n212 _ W215 ⟨f213, s219, data218, i222, j217, L214, HS216, HO220, HL221, h, rfl⟩ K210 hK211
  obtain _ | n212 := n212
  · exact nomatch h
  simp only [slices_insertionSortCmpFunc_int__level_known_1.l0] at h
  refine wp_seq_k (fun K223 hK224 => ?_)
  refine wp_seq_k (fun K225 hK226 => ?_)
  refine wp_region_lit ?_
  refine seqS3 (a' := ⟨#[.slice A7 data218.length c8, iV a13, iV b14, .func (.func 99) #[] #[.pointer (some ⟨b1, 0, none⟩)], uV, uV, uV, uV, iV i222, (j217 0), iV a13, iV (w64 (a13 + 1)), iV i222, iV b14, .bool (decide (i222 < b14)), (j217 4), (j217 5), (j217 6), (j217 7), (j217 8), (j217 9), (j217 10), (j217 11), (j217 12), (j217 13), (j217 14), (j217 15), (j217 16), (j217 17), (j217 18), (j217 19), (j217 20), (j217 21), (j217 22), (j217 23), (j217 24), (j217 25), (j217 26), (j217 27), (j217 28), (j217 29), (j217 30), (j217 31), (j217 32), (j217 33), (j217 34), (j217 35), (j217 36), (j217 37), (j217 38), (j217 39), (j217 40), (j217 41)], []⟩) (by kernel_rfl) ?_
  refine wpList_nil ?_
  refine hK226 _ _ ?_
  have hq_ := ite_some h; clear h; rcases hq_ with ⟨c228, h⟩ | ⟨c228, h⟩
  · have c228 : i222 < b14 := c228
    refine wpRwI 14 (x := (decide (i222 < b14))) (v := true) (by kernel_rfl) (decide_eq_true c228) ?_
    refine condT (by kernel_rfl) ?_
    refine wp_skip ?_
    refine hK224 _ _ ?_
    refine wp_seq_k (fun K229 hK230 => ?_)
    refine blockK (fun B231 hx232 hn233 hr234 ho235 hp236 => ?_)
    refine wp_seq_k (fun K238 hK239 => ?_)
    refine wp_region_lit ?_
    refine seqS2 (a' := ⟨#[.slice A7 data218.length c8, iV a13, iV b14, .func (.func 99) #[] #[.pointer (some ⟨b1, 0, none⟩)], uV, uV, uV, uV, iV i222, iV i222, iV a13, iV (w64 (a13 + 1)), iV i222, iV b14, .bool true, (j217 4), (j217 5), iV i222, (j217 7), (j217 8), (j217 9), (j217 10), (j217 11), (j217 12), (j217 13), (j217 14), (j217 15), (j217 16), (j217 17), (j217 18), (j217 19), (j217 20), (j217 21), (j217 22), (j217 23), (j217 24), (j217 25), (j217 26), (j217 27), (j217 28), (j217 29), (j217 30), (j217 31), (j217 32), (j217 33), (j217 34), (j217 35), (j217 36), (j217 37), (j217 38), (j217 39), (j217 40), (j217 41)], []⟩) (by kernel_rfl) ?_
    refine wpList_nil ?_
    refine hK239 _ _ ?_
    refine blockK (fun B240 hx241 hn242 hr243 ho244 hp245 => ?_)
    have hq_ := bind_some h; clear h; obtain ⟨o314, hv395, h⟩ := hq_
    have J396 : ∀ (f386 : FM) (s392 : Seg) (data391 : List Int) (j390 : Nat → Value) (W388 : World) (a_ : Act), FM.le f213 f386 → some (data391) = some o314 → St t W388 f386 ([(b1, .cells #[.int .i64 v3.W, .int .i64 v3.H, .slice A4 v3.At.length c5] 34 (0, 0))] :: s392 :: H) → Own (tInt .i64) 3 f386 A7 c8 s392 data391 → data391.length = data218.length → a_ = ⟨#[.slice A7 data391.length c8, iV a13, iV b14, .func (.func 99) #[] #[.pointer (some ⟨b1, 0, none⟩)], uV, uV, uV, uV, iV i222, (j390 0), iV a13, iV (w64 (a13 + 1)), iV i222, iV b14, .bool true, (j217 4), (j217 5), iV i222, (j390 1), (j390 2), (j390 3), (j390 4), (j390 5), (j390 6), (j390 7), (j390 8), (j390 9), (j390 10), (j390 11), (j390 12), (j390 13), (j390 14), (j390 15), (j390 16), (j390 17), (j390 18), (j390 19), (j390 20), (j390 21), (j390 22), (j390 23), (j390 24), (j390 25), (j390 26), (j390 27), (j390 28), (j390 29), (j390 30), (j390 31), (j390 32), (j390 33), (j390 34), (j390 35)], []⟩ → B231 Exit.normal a_ W388 := by
      intro f386 s392 data391 j390 W388 a_ L387 hj397 HS389 HO393 HL394 hfr_; subst hfr_
      injection hj397 with hj397; subst hj397; try dsimp only at h
      refine hn233 _ _ ?_
      refine hK230 _ _ ?_
      refine wp_region_lit ?_
      refine seqS3 (a' := ⟨#[.slice A7 data391.length c8, iV a13, iV b14, .func (.func 99) #[] #[.pointer (some ⟨b1, 0, none⟩)], uV, uV, uV, uV, iV (w64 (i222 + 1)), (j390 0), iV a13, iV (w64 (a13 + 1)), iV i222, iV b14, .bool true, iV i222, iV (w64 (i222 + 1)), iV i222, (j390 1), (j390 2), (j390 3), (j390 4), (j390 5), (j390 6), (j390 7), (j390 8), (j390 9), (j390 10), (j390 11), (j390 12), (j390 13), (j390 14), (j390 15), (j390 16), (j390 17), (j390 18), (j390 19), (j390 20), (j390 21), (j390 22), (j390 23), (j390 24), (j390 25), (j390 26), (j390 27), (j390 28), (j390 29), (j390 30), (j390 31), (j390 32), (j390 33), (j390 34), (j390 35)], []⟩) (by kernel_rfl) ?_
      refine wpList_nil ?_
      refine hK211 n212 _ _ (Nat.lt_succ_self _) ?_
      exact ⟨f386, s392, data391, (w64 (i222 + 1)), (fun i_ => [(j390 0), Value.int .i64 i222, Value.int .i64 b14, Value.bool true, Value.int .i64 i222, Value.int .i64 (w64 (i222 + 1)), Value.int .i64 i222, (j390 1), (j390 2), (j390 3), (j390 4), (j390 5), (j390 6), (j390 7), (j390 8), (j390 9), (j390 10), (j390 11), (j390 12), (j390 13), (j390 14), (j390 15), (j390 16), (j390 17), (j390 18), (j390 19), (j390 20), (j390 21), (j390 22), (j390 23), (j390 24), (j390 25), (j390 26), (j390 27), (j390 28), (j390 29), (j390 30), (j390 31), (j390 32), (j390 33), (j390 34), (j390 35)].getD i_ undef), (L214.trans L387), HS389, HO393, (HL394.trans HL221), h, (by kernel_rfl)⟩
    clear h; have h := hv395; clear hv395
    refine loopK (fun n_ a_ w_ => ∃ (f318 : FM) (s324 : Seg) (data323 : List Int) (j327 : Int) (j322 : Nat → Value), FM.le f213 f318 ∧ St t w_ f318 ([(b1, .cells #[.int .i64 v3.W, .int .i64 v3.H, .slice A4 v3.At.length c5] 34 (0, 0))] :: s324 :: H) ∧ Own (tInt .i64) 3 f318 A7 c8 s324 data323 ∧ data323.length = data218.length ∧ slices_insertionSortCmpFunc_int__level_known_1.l1 k a13 v3 n_ data323 j327 = some o314 ∧ a_ = ⟨#[.slice A7 data323.length c8, iV a13, iV b14, .func (.func 99) #[] #[.pointer (some ⟨b1, 0, none⟩)], uV, uV, uV, uV, iV i222, iV j327, iV a13, iV (w64 (a13 + 1)), iV i222, iV b14, .bool true, (j217 4), (j217 5), iV i222, (j322 0), (j322 1), (j322 2), (j322 3), (j322 4), (j322 5), (j322 6), (j322 7), (j322 8), (j322 9), (j322 10), (j322 11), (j322 12), (j322 13), (j322 14), (j322 15), (j322 16), (j322 17), (j322 18), (j322 19), (j322 20), (j322 21), (j322 22), (j322 23), (j322 24), (j322 25), (j322 26), (j322 27), (j322 28), (j322 29), (j322 30), (j322 31), (j322 32), (j322 33), (j322 34)], []⟩) k ⟨f213, s219, data218, i222, (fun i_ => [(j217 7), (j217 8), (j217 9), (j217 10), (j217 11), (j217 12), (j217 13), (j217 14), (j217 15), (j217 16), (j217 17), (j217 18), (j217 19), (j217 20), (j217 21), (j217 22), (j217 23), (j217 24), (j217 25), (j217 26), (j217 27), (j217 28), (j217 29), (j217 30), (j217 31), (j217 32), (j217 33), (j217 34), (j217 35), (j217 36), (j217 37), (j217 38), (j217 39), (j217 40), (j217 41)].getD i_ undef), (FM.le.refl _), HS216, HO220, rfl, h, (by kernel_rfl)⟩ ?_
    clear h
    rintro n317 _ W320 ⟨f318, s324, data323, j327, j322, L319, HS321, HO325, HL326, h, rfl⟩ K315 hK316
    obtain _ | n317 := n317
    · exact nomatch h
    simp only [slices_insertionSortCmpFunc_int__level_known_1.l1] at h
    refine wp_seq_k (fun K328 hK329 => ?_)
    refine wp_seq_k (fun K330 hK331 => ?_)
    refine heldG (S := Sg t f318 ([(b1, .cells #[.int .i64 v3.W, .int .i64 v3.H, .slice A4 v3.At.length c5] 34 (0, 0))] :: s324 :: H) []) (n := 17) (by kernel_rfl) rfl HS321 ?_
    intro W332 HS333
    refine takeG [0, 1, 2, 3] (n := 17) (fuel := 13) (l' := #[true, true, true, true, false, false, false, false, false, false, false, false, false, false, false, false, false]) (a' := ⟨#[.slice A7 data323.length c8, iV a13, iV b14, .func (.func 99) #[] #[.pointer (some ⟨b1, 0, none⟩)], uV, uV, uV, uV, iV i222, iV j327, iV a13, iV (w64 (a13 + 1)), iV i222, iV b14, .bool true, (j217 4), (j217 5), iV i222, iV j327, iV a13, .bool (decide (j327 > a13)), .bool (decide (j327 > a13)), (j322 4), (j322 5), (j322 6), (j322 7), (j322 8), (j322 9), (j322 10), (j322 11), (j322 12), (j322 13), (j322 14), (j322 15), (j322 16), (j322 17), (j322 18), (j322 19), (j322 20), (j322 21), (j322 22), (j322 23), (j322 24), (j322 25), (j322 26), (j322 27), (j322 28), (j322 29), (j322 30), (j322 31), (j322 32), (j322 33), (j322 34)], []⟩) rfl (by kernel_rfl) (by kernel_rfl) (by kernel_rfl) (fun ch_ a_ w_ q_ => (fun ch_ a_ w_ q_ => (fun ch_ a_ w_ q_ => hnp ch_ a_ w_ (hp22 ch_ a_ w_ q_)) ch_ a_ w_ (hp236 ch_ a_ w_ q_)) ch_ a_ w_ (hp245 ch_ a_ w_ q_)) (Sg.g0 (Sx.of [] (FM.le.refl _) HS333)) ?_
    have hq_ := ite_some h; clear h; rcases hq_ with ⟨c334, h⟩ | ⟨c334, h⟩
    · have c334 : j327 > a13 := c334
      refine gateRwI 20 (x := (decide (j327 > a13))) (v := true) (by kernel_rfl) (decide_eq_true c334) ?_
      refine gateRwI 21 (x := (decide (j327 > a13))) (v := true) (by kernel_rfl) (decide_eq_true c334) ?_
      have hq_ := guard_some h; clear h; obtain ⟨c335, h⟩ := hq_
      have c335 : 0 ≤ j327 := c335
      have hq_ := guard_some h; clear h; obtain ⟨c336, h⟩ := hq_
      have c336 : j327 < (data323.length : Int) := c336
      obtain ⟨b340, of341, cs337, hA342, hr338, hc339⟩ := HO325.at (i := j327) c335 c336
      obtain rfl := hr338
      refine takeG [4, 5, 6] (n := 13) (fuel := 10) (l' := #[true, true, true, true, true, true, true, false, false, false, false, false, false, false, false, false, false]) (a' := ⟨#[.slice A7 data323.length c8, iV a13, iV b14, .func (.func 99) #[] #[.pointer (some ⟨b1, 0, none⟩)], uV, uV, uV, uV, iV i222, iV j327, iV a13, iV (w64 (a13 + 1)), iV i222, iV b14, .bool true, (j217 4), (j217 5), iV i222, iV j327, iV a13, .bool true, .bool true, .func (.func 99) #[] #[.pointer (some ⟨b1, 0, none⟩)], .slice A7 data323.length c8, iV j327, (j322 7), (j322 8), (j322 9), (j322 10), (j322 11), (j322 12), (j322 13), (j322 14), (j322 15), (j322 16), (j322 17), (j322 18), (j322 19), (j322 20), (j322 21), (j322 22), (j322 23), (j322 24), (j322 25), (j322 26), (j322 27), (j322 28), (j322 29), (j322 30), (j322 31), (j322 32), (j322 33), (j322 34)], []⟩) rfl (by kernel_rfl) (by kernel_rfl) (by kernel_rfl) (fun ch_ a_ w_ q_ => (fun ch_ a_ w_ q_ => (fun ch_ a_ w_ q_ => hnp ch_ a_ w_ (hp22 ch_ a_ w_ q_)) ch_ a_ w_ (hp236 ch_ a_ w_ q_)) ch_ a_ w_ (hp245 ch_ a_ w_ q_)) (Sg.g0 (Sx.of [] (FM.le.refl _) HS333)) ?_
      refine takeGQ 7 [] rfl (by kernel_rfl) (by kernel_rfl) (by kernel_rfl) (by kernel_rfl) (by kernel_rfl) (by kernel_rfl) (fun ch_ a_ w_ q_ => (fun ch_ a_ w_ q_ => (fun ch_ a_ w_ q_ => hnp ch_ a_ w_ (hp22 ch_ a_ w_ q_)) ch_ a_ w_ (hp236 ch_ a_ w_ q_)) ch_ a_ w_ (hp245 ch_ a_ w_ q_)) (Sg.g0 (Sx.of [] (FM.le.refl _) HS333)) (fun w_ hw_ => by obtain ⟨g_, hl_, hS_⟩ := hw_.st; exact run_indexE hA342 (sz := 1) rfl Try.underlying22 (by kernel_rfl) (by kernel_rfl : _ = Value.slice A7 data323.length c8) (by kernel_rfl : _ = Value.int .i64 j327) c335 c336 w_) ?_
      refine takeGQ 8 [] rfl (by kernel_rfl) (by kernel_rfl) (by kernel_rfl) (by kernel_rfl) (by kernel_rfl) (by kernel_rfl) (fun ch_ a_ w_ q_ => (fun ch_ a_ w_ q_ => (fun ch_ a_ w_ q_ => hnp ch_ a_ w_ (hp22 ch_ a_ w_ q_)) ch_ a_ w_ (hp236 ch_ a_ w_ q_)) ch_ a_ w_ (hp245 ch_ a_ w_ q_)) (Sg.g0 (Sx.of [] (FM.le.refl _) HS333)) (fun w_ hw_ => by obtain ⟨g_, hl_, hS_⟩ := hw_.st; exact run_load rfl Try.underlying3 rfl (by kernel_rfl : _ = Value.pointer (some ⟨b340, of341 + (j327 : Int).toNat * 1, none⟩)) ((hc339 hS_.u1) 0 (by decide))) ?_
      have hq_ := guard_some h; clear h; obtain ⟨c343, h⟩ := hq_
      have c343 : 0 ≤ (w64 (j327 - 1)) := c343
      have hq_ := guard_some h; clear h; obtain ⟨c344, h⟩ := hq_
      have c344 : (w64 (j327 - 1)) < (data323.length : Int) := c344
      obtain ⟨b348, of349, cs345, hA350, hr346, hc347⟩ := HO325.at (i := w64 (j327 - 1)) c343 c344
      obtain rfl := hr346
      refine takeG [9, 10, 11] (n := 8) (fuel := 5) (l' := #[true, true, true, true, true, true, true, true, true, true, true, true, false, false, false, false, false]) (a' := ⟨#[.slice A7 data323.length c8, iV a13, iV b14, .func (.func 99) #[] #[.pointer (some ⟨b1, 0, none⟩)], uV, uV, uV, uV, iV i222, iV j327, iV a13, iV (w64 (a13 + 1)), iV i222, iV b14, .bool true, (j217 4), (j217 5), iV i222, iV j327, iV a13, .bool true, .bool true, .func (.func 99) #[] #[.pointer (some ⟨b1, 0, none⟩)], .slice A7 data323.length c8, iV j327, .pointer (some ⟨b340, of341 + (j327 : Int).toNat * 1, none⟩), iV (rd data323 j327), .slice A7 data323.length c8, iV j327, iV (w64 (j327 - 1)), (j322 12), (j322 13), (j322 14), (j322 15), (j322 16), (j322 17), (j322 18), (j322 19), (j322 20), (j322 21), (j322 22), (j322 23), (j322 24), (j322 25), (j322 26), (j322 27), (j322 28), (j322 29), (j322 30), (j322 31), (j322 32), (j322 33), (j322 34)], []⟩) rfl (by kernel_rfl) (by kernel_rfl) (by kernel_rfl) (fun ch_ a_ w_ q_ => (fun ch_ a_ w_ q_ => (fun ch_ a_ w_ q_ => hnp ch_ a_ w_ (hp22 ch_ a_ w_ q_)) ch_ a_ w_ (hp236 ch_ a_ w_ q_)) ch_ a_ w_ (hp245 ch_ a_ w_ q_)) (Sg.g0 (Sx.of [] (FM.le.refl _) HS333)) ?_
      refine takeGQ 12 [] rfl (by kernel_rfl) (by kernel_rfl) (by kernel_rfl) (by kernel_rfl) (by kernel_rfl) (by kernel_rfl) (fun ch_ a_ w_ q_ => (fun ch_ a_ w_ q_ => (fun ch_ a_ w_ q_ => hnp ch_ a_ w_ (hp22 ch_ a_ w_ q_)) ch_ a_ w_ (hp236 ch_ a_ w_ q_)) ch_ a_ w_ (hp245 ch_ a_ w_ q_)) (Sg.g0 (Sx.of [] (FM.le.refl _) HS333)) (fun w_ hw_ => by obtain ⟨g_, hl_, hS_⟩ := hw_.st; exact run_indexE hA350 (sz := 1) rfl Try.underlying22 (by kernel_rfl) (by kernel_rfl : _ = Value.slice A7 data323.length c8) (by kernel_rfl : _ = Value.int .i64 (w64 (j327 - 1))) c343 c344 w_) ?_
      refine takeGQ 13 [] rfl (by kernel_rfl) (by kernel_rfl) (by kernel_rfl) (by kernel_rfl) (by kernel_rfl) (by kernel_rfl) (fun ch_ a_ w_ q_ => (fun ch_ a_ w_ q_ => (fun ch_ a_ w_ q_ => hnp ch_ a_ w_ (hp22 ch_ a_ w_ q_)) ch_ a_ w_ (hp236 ch_ a_ w_ q_)) ch_ a_ w_ (hp245 ch_ a_ w_ q_)) (Sg.g0 (Sx.of [] (FM.le.refl _) HS333)) (fun w_ hw_ => by obtain ⟨g_, hl_, hS_⟩ := hw_.st; exact run_load rfl Try.underlying3 rfl (by kernel_rfl : _ = Value.pointer (some ⟨b348, of349 + (w64 (j327 - 1) : Int).toNat * 1, none⟩)) ((hc347 hS_.u1) 0 (by decide))) ?_
      have hq_ := bind_some h; clear h; obtain ⟨vt351, hc352, h⟩ := hq_
      refine takeGE 14 (by kernel_rfl) rfl (by kernel_rfl) (does_call (f := 99) (args := #[.int .i64 (rd data323 j327), .int .i64 (rd data323 (w64 (j327 - 1))), .pointer (some ⟨b1, 0, none⟩)]) (by kernel_rfl) (level_known_1.calls k b1 A4 c5 v3 (rd data323 j327) (rd data323 (w64 (j327 - 1))) HS333 (HR6.mono (L214.trans L319)) vt351 hc352) ?_)
      rintro _ W355 ⟨f353, rfl, L354, HS356⟩
      refine ⟨_, rfl, ?_⟩
      refine ⟨(Sg.g0 (Sx.of [] L354 HS356)), ?_⟩
      refine takeG [15, 16] (n := 2) (fuel := 0) (l' := #[true, true, true, true, true, true, true, true, true, true, true, true, true, true, true, true, true]) (a' := ⟨#[.slice A7 data323.length c8, iV a13, iV b14, .func (.func 99) #[] #[.pointer (some ⟨b1, 0, none⟩)], uV, uV, uV, uV, iV i222, iV j327, iV a13, iV (w64 (a13 + 1)), iV i222, iV b14, .bool true, (j217 4), (j217 5), iV i222, iV j327, iV a13, .bool true, .bool true, .func (.func 99) #[] #[.pointer (some ⟨b1, 0, none⟩)], .slice A7 data323.length c8, iV j327, .pointer (some ⟨b340, of341 + (j327 : Int).toNat * 1, none⟩), iV (rd data323 j327), .slice A7 data323.length c8, iV j327, iV (w64 (j327 - 1)), .pointer (some ⟨b348, of349 + (w64 (j327 - 1) : Int).toNat * 1, none⟩), iV (rd data323 (w64 (j327 - 1))), iV vt351, .bool (decide (vt351 < 0)), .bool (decide (vt351 < 0)), (j322 17), (j322 18), (j322 19), (j322 20), (j322 21), (j322 22), (j322 23), (j322 24), (j322 25), (j322 26), (j322 27), (j322 28), (j322 29), (j322 30), (j322 31), (j322 32), (j322 33), (j322 34)], []⟩) rfl (by kernel_rfl) (by kernel_rfl) (by kernel_rfl) (fun ch_ a_ w_ q_ => (fun ch_ a_ w_ q_ => (fun ch_ a_ w_ q_ => hnp ch_ a_ w_ (hp22 ch_ a_ w_ q_)) ch_ a_ w_ (hp236 ch_ a_ w_ q_)) ch_ a_ w_ (hp245 ch_ a_ w_ q_)) (Sg.g0 (Sx.of [] L354 HS356)) ?_
      refine doneG (by kernel_rfl) ?_ _
      refine hK331 _ _ ?_
      have hq_ := ite_some h; clear h; rcases hq_ with ⟨c358, h⟩ | ⟨c358, h⟩
      · have c358 : vt351 < 0 := c358
        refine wpRwI 33 (x := (decide (vt351 < 0))) (v := true) (by kernel_rfl) (decide_eq_true c358) ?_
        refine wpRwI 34 (x := (decide (vt351 < 0))) (v := true) (by kernel_rfl) (decide_eq_true c358) ?_
        refine condT (by kernel_rfl) ?_
        refine wp_skip ?_
        refine hK329 _ _ ?_
        refine wp_seq_k (fun K359 hK360 => ?_)
        refine blockK (fun B361 hx362 hn363 hr364 ho365 hp366 => ?_)
        have HS368 := HS356.u1
        refine heldG (S := Sg t f353 ([(b1, .cells #[.int .i64 v3.W, .int .i64 v3.H, .slice A4 v3.At.length c5] 34 (0, 0))] :: H) [(15, s324)]) (n := 18) (by kernel_rfl) rfl HS368 ?_
        intro W369 HS370
        refine takeG [0, 1, 2, 3, 4, 5, 6, 7] (n := 18) (fuel := 10) (l' := #[true, true, true, true, true, true, true, true, false, false, false, false, false, false, false, false, false, false]) (a' := ⟨#[.slice A7 data323.length c8, iV a13, iV b14, .func (.func 99) #[] #[.pointer (some ⟨b1, 0, none⟩)], uV, uV, uV, uV, iV i222, iV j327, iV a13, iV (w64 (a13 + 1)), iV i222, iV b14, .bool true, (j217 4), (j217 5), iV i222, iV j327, iV a13, .bool true, .bool true, .func (.func 99) #[] #[.pointer (some ⟨b1, 0, none⟩)], .slice A7 data323.length c8, iV j327, .pointer (some ⟨b340, of341 + (j327 : Int).toNat * 1, none⟩), iV (rd data323 j327), .slice A7 data323.length c8, iV j327, iV (w64 (j327 - 1)), .pointer (some ⟨b348, of349 + (w64 (j327 - 1) : Int).toNat * 1, none⟩), iV (rd data323 (w64 (j327 - 1))), iV vt351, .bool true, .bool true, (j322 17), (j322 18), .slice A7 data323.length c8, iV j327, .slice A7 data323.length c8, iV j327, iV (w64 (j327 - 1)), .slice A7 data323.length c8, iV j327, iV (w64 (j327 - 1)), (j322 27), (j322 28), (j322 29), (j322 30), (j322 31), (j322 32), (j322 33), (j322 34)], []⟩) rfl (by kernel_rfl) (by kernel_rfl) (by kernel_rfl) (fun ch_ a_ w_ q_ => (fun ch_ a_ w_ q_ => (fun ch_ a_ w_ q_ => (fun ch_ a_ w_ q_ => hnp ch_ a_ w_ (hp22 ch_ a_ w_ q_)) ch_ a_ w_ (hp236 ch_ a_ w_ q_)) ch_ a_ w_ (hp245 ch_ a_ w_ q_)) ch_ a_ w_ (hp366 ch_ a_ w_ q_)) (Sg.g1 (Sx.of [s324] (FM.le.refl _) HS370) (fun _ => St.only [] HS370 (FM.le.refl _))) ?_
        refine takeGQ 8 [] rfl (by kernel_rfl) (by kernel_rfl) (by kernel_rfl) (by kernel_rfl) (by kernel_rfl) (by kernel_rfl) (fun ch_ a_ w_ q_ => (fun ch_ a_ w_ q_ => (fun ch_ a_ w_ q_ => (fun ch_ a_ w_ q_ => hnp ch_ a_ w_ (hp22 ch_ a_ w_ q_)) ch_ a_ w_ (hp236 ch_ a_ w_ q_)) ch_ a_ w_ (hp245 ch_ a_ w_ q_)) ch_ a_ w_ (hp366 ch_ a_ w_ q_)) (Sg.g1 (Sx.of [s324] (FM.le.refl _) HS370) (fun _ => St.only [] HS370 (FM.le.refl _))) (fun w_ hw_ => by obtain ⟨g_, hl_, hS_⟩ := hw_.st; exact run_indexE hA350 (sz := 1) rfl Try.underlying22 (by kernel_rfl) (by kernel_rfl : _ = Value.slice A7 data323.length c8) (by kernel_rfl : _ = Value.int .i64 (w64 (j327 - 1))) c343 c344 w_) ?_
        refine takeGQ 9 [15] rfl (by kernel_rfl) (by kernel_rfl) (by kernel_rfl) (by kernel_rfl) (by kernel_rfl) (by kernel_rfl) (fun ch_ a_ w_ q_ => (fun ch_ a_ w_ q_ => (fun ch_ a_ w_ q_ => (fun ch_ a_ w_ q_ => hnp ch_ a_ w_ (hp22 ch_ a_ w_ q_)) ch_ a_ w_ (hp236 ch_ a_ w_ q_)) ch_ a_ w_ (hp245 ch_ a_ w_ q_)) ch_ a_ w_ (hp366 ch_ a_ w_ q_)) (Sg.g1 (Sx.of [s324] (FM.le.refl _) HS370) (fun _ => St.only [] HS370 (FM.le.refl _))) (fun w_ hw_ => by obtain ⟨g_, hl_, hS_⟩ := hw_.seg (j := 15) (s := s324) (by simp) (by simp); exact run_load rfl Try.underlying3 rfl (by kernel_rfl : _ = Value.pointer (some ⟨b348, of349 + (w64 (j327 - 1) : Int).toNat * 1, none⟩)) ((hc347 hS_) 0 (by decide))) ?_
        refine takeG [10, 11] (n := 8) (fuel := 6) (l' := #[true, true, true, true, true, true, true, true, true, true, true, true, false, false, false, false, false, false]) (a' := ⟨#[.slice A7 data323.length c8, iV a13, iV b14, .func (.func 99) #[] #[.pointer (some ⟨b1, 0, none⟩)], uV, uV, uV, uV, iV i222, iV j327, iV a13, iV (w64 (a13 + 1)), iV i222, iV b14, .bool true, (j217 4), (j217 5), iV i222, iV j327, iV a13, .bool true, .bool true, .func (.func 99) #[] #[.pointer (some ⟨b1, 0, none⟩)], .slice A7 data323.length c8, iV j327, .pointer (some ⟨b340, of341 + (j327 : Int).toNat * 1, none⟩), iV (rd data323 j327), .slice A7 data323.length c8, iV j327, iV (w64 (j327 - 1)), .pointer (some ⟨b348, of349 + (w64 (j327 - 1) : Int).toNat * 1, none⟩), iV (rd data323 (w64 (j327 - 1))), iV vt351, .bool true, .bool true, (j322 17), (j322 18), .slice A7 data323.length c8, iV j327, .slice A7 data323.length c8, iV j327, iV (w64 (j327 - 1)), .slice A7 data323.length c8, iV j327, iV (w64 (j327 - 1)), .pointer (some ⟨b348, of349 + (w64 (j327 - 1) : Int).toNat * 1, none⟩), iV (rd data323 (w64 (j327 - 1))), .slice A7 data323.length c8, iV j327, (j322 31), (j322 32), (j322 33), (j322 34)], []⟩) rfl (by kernel_rfl) (by kernel_rfl) (by kernel_rfl) (fun ch_ a_ w_ q_ => (fun ch_ a_ w_ q_ => (fun ch_ a_ w_ q_ => (fun ch_ a_ w_ q_ => hnp ch_ a_ w_ (hp22 ch_ a_ w_ q_)) ch_ a_ w_ (hp236 ch_ a_ w_ q_)) ch_ a_ w_ (hp245 ch_ a_ w_ q_)) ch_ a_ w_ (hp366 ch_ a_ w_ q_)) (Sg.g1 (Sx.of [s324] (FM.le.refl _) HS370) (fun _ => St.only [] HS370 (FM.le.refl _))) ?_
        refine takeGQ 12 [] rfl (by kernel_rfl) (by kernel_rfl) (by kernel_rfl) (by kernel_rfl) (by kernel_rfl) (by kernel_rfl) (fun ch_ a_ w_ q_ => (fun ch_ a_ w_ q_ => (fun ch_ a_ w_ q_ => (fun ch_ a_ w_ q_ => hnp ch_ a_ w_ (hp22 ch_ a_ w_ q_)) ch_ a_ w_ (hp236 ch_ a_ w_ q_)) ch_ a_ w_ (hp245 ch_ a_ w_ q_)) ch_ a_ w_ (hp366 ch_ a_ w_ q_)) (Sg.g1 (Sx.of [s324] (FM.le.refl _) HS370) (fun _ => St.only [] HS370 (FM.le.refl _))) (fun w_ hw_ => by obtain ⟨g_, hl_, hS_⟩ := hw_.st; exact run_indexE hA342 (sz := 1) rfl Try.underlying22 (by kernel_rfl) (by kernel_rfl : _ = Value.slice A7 data323.length c8) (by kernel_rfl : _ = Value.int .i64 j327) c335 c336 w_) ?_
        refine takeGQ 13 [15] rfl (by kernel_rfl) (by kernel_rfl) (by kernel_rfl) (by kernel_rfl) (by kernel_rfl) (by kernel_rfl) (fun ch_ a_ w_ q_ => (fun ch_ a_ w_ q_ => (fun ch_ a_ w_ q_ => (fun ch_ a_ w_ q_ => hnp ch_ a_ w_ (hp22 ch_ a_ w_ q_)) ch_ a_ w_ (hp236 ch_ a_ w_ q_)) ch_ a_ w_ (hp245 ch_ a_ w_ q_)) ch_ a_ w_ (hp366 ch_ a_ w_ q_)) (Sg.g1 (Sx.of [s324] (FM.le.refl _) HS370) (fun _ => St.only [] HS370 (FM.le.refl _))) (fun w_ hw_ => by obtain ⟨g_, hl_, hS_⟩ := hw_.seg (j := 15) (s := s324) (by simp) (by simp); exact run_load rfl Try.underlying3 rfl (by kernel_rfl : _ = Value.pointer (some ⟨b340, of341 + (j327 : Int).toNat * 1, none⟩)) ((hc339 hS_) 0 (by decide))) ?_
        refine takeGQ 14 [] rfl (by kernel_rfl) (by kernel_rfl) (by kernel_rfl) (by kernel_rfl) (by kernel_rfl) (by kernel_rfl) (fun ch_ a_ w_ q_ => (fun ch_ a_ w_ q_ => (fun ch_ a_ w_ q_ => (fun ch_ a_ w_ q_ => hnp ch_ a_ w_ (hp22 ch_ a_ w_ q_)) ch_ a_ w_ (hp236 ch_ a_ w_ q_)) ch_ a_ w_ (hp245 ch_ a_ w_ q_)) ch_ a_ w_ (hp366 ch_ a_ w_ q_)) (Sg.g1 (Sx.of [s324] (FM.le.refl _) HS370) (fun _ => St.only [] HS370 (FM.le.refl _))) (fun w_ hw_ => by obtain ⟨g_, hl_, hS_⟩ := hw_.st; exact run_indexE hA342 (sz := 1) rfl Try.underlying22 (by kernel_rfl) (by kernel_rfl : _ = Value.slice A7 data323.length c8) (by kernel_rfl : _ = Value.int .i64 j327) c335 c336 w_) ?_
        refine takeGE 15 (by kernel_rfl) rfl (by kernel_rfl) (does_put (e := (tInt .i64)) (E := 3) (vs := [.int .i64 (rd data323 (w64 (j327 - 1)))]) (u := (rd data323 (w64 (j327 - 1)))) (i := j327) rfl (by kernel_rfl) (HO325.mono L354) HS370 hA342 (by kernel_rfl : _ = Value.pointer (some ⟨b340, of341 + (j327 : Int).toNat * 1, none⟩)) (by kernel_rfl : _ = Value.int .i64 (rd data323 (w64 (j327 - 1)))) rfl rfl c335 c336 ?_)
        intro W371 s372 HS373 HO374
        refine ⟨(Sg.g1 (Sx.of [s372] (FM.le.refl _) HS373) (fun hl_ => Bool.noConfusion (show true = false from hl_))), ?_⟩
        refine gateRwS 0 (A := A7) (m := data323.length) (n := (data323.set (j327).toNat (rd data323 (w64 (j327 - 1)))).length) (c := c8) (by kernel_rfl) (List.length_set).symm ?_
        refine gateRwS 23 (A := A7) (m := data323.length) (n := (data323.set (j327).toNat (rd data323 (w64 (j327 - 1)))).length) (c := c8) (by kernel_rfl) (List.length_set).symm ?_
        refine gateRwS 27 (A := A7) (m := data323.length) (n := (data323.set (j327).toNat (rd data323 (w64 (j327 - 1)))).length) (c := c8) (by kernel_rfl) (List.length_set).symm ?_
        refine gateRwS 37 (A := A7) (m := data323.length) (n := (data323.set (j327).toNat (rd data323 (w64 (j327 - 1)))).length) (c := c8) (by kernel_rfl) (List.length_set).symm ?_
        refine gateRwS 39 (A := A7) (m := data323.length) (n := (data323.set (j327).toNat (rd data323 (w64 (j327 - 1)))).length) (c := c8) (by kernel_rfl) (List.length_set).symm ?_
        refine gateRwS 42 (A := A7) (m := data323.length) (n := (data323.set (j327).toNat (rd data323 (w64 (j327 - 1)))).length) (c := c8) (by kernel_rfl) (List.length_set).symm ?_
        refine gateRwS 47 (A := A7) (m := data323.length) (n := (data323.set (j327).toNat (rd data323 (w64 (j327 - 1)))).length) (c := c8) (by kernel_rfl) (List.length_set).symm ?_
        have hq_ := guard_some h; clear h; obtain ⟨c375, h⟩ := hq_
        have c375 : (w64 (j327 - 1)) < ((data323.set (j327).toNat (rd data323 (w64 (j327 - 1)))).length : Int) := c375
        obtain ⟨b379, of380, cs376, hA381, hr377, hc378⟩ := HO374.at (i := w64 (j327 - 1)) c343 c375
        obtain rfl := hr377
        refine takeGQ 16 [] rfl (by kernel_rfl) (by kernel_rfl) (by kernel_rfl) (by kernel_rfl) (by kernel_rfl) (by kernel_rfl) (fun ch_ a_ w_ q_ => (fun ch_ a_ w_ q_ => (fun ch_ a_ w_ q_ => (fun ch_ a_ w_ q_ => hnp ch_ a_ w_ (hp22 ch_ a_ w_ q_)) ch_ a_ w_ (hp236 ch_ a_ w_ q_)) ch_ a_ w_ (hp245 ch_ a_ w_ q_)) ch_ a_ w_ (hp366 ch_ a_ w_ q_)) (Sg.g1 (Sx.of [s372] (FM.le.refl _) HS373) (fun hl_ => Bool.noConfusion (show true = false from hl_))) (fun w_ hw_ => by obtain ⟨g_, hl_, hS_⟩ := hw_.st; exact run_indexE hA381 (sz := 1) rfl Try.underlying22 (by kernel_rfl) (by kernel_rfl : _ = Value.slice A7 (data323.set (j327).toNat (rd data323 (w64 (j327 - 1)))).length c8) (by kernel_rfl : _ = Value.int .i64 (w64 (j327 - 1))) c343 c375 w_) ?_
        refine takeGE 17 (by kernel_rfl) rfl (by kernel_rfl) (does_put (e := (tInt .i64)) (E := 3) (vs := [.int .i64 (rd data323 j327)]) (u := (rd data323 j327)) (i := w64 (j327 - 1)) rfl (by kernel_rfl) HO374 HS373 hA381 (by kernel_rfl : _ = Value.pointer (some ⟨b379, of380 + (w64 (j327 - 1) : Int).toNat * 1, none⟩)) (by kernel_rfl : _ = Value.int .i64 (rd data323 j327)) rfl rfl c343 c375 ?_)
        intro W382 s383 HS384 HO385
        refine ⟨(Sg.g1 (Sx.of [s383] (FM.le.refl _) HS384) (fun hl_ => Bool.noConfusion (show true = false from hl_))), ?_⟩
        refine gateRwS 0 (A := A7) (m := (data323.set (j327).toNat (rd data323 (w64 (j327 - 1)))).length) (n := ((data323.set (j327).toNat (rd data323 (w64 (j327 - 1)))).set (w64 (j327 - 1)).toNat (rd data323 j327)).length) (c := c8) (by kernel_rfl) (List.length_set).symm ?_
        refine gateRwS 23 (A := A7) (m := (data323.set (j327).toNat (rd data323 (w64 (j327 - 1)))).length) (n := ((data323.set (j327).toNat (rd data323 (w64 (j327 - 1)))).set (w64 (j327 - 1)).toNat (rd data323 j327)).length) (c := c8) (by kernel_rfl) (List.length_set).symm ?_
        refine gateRwS 27 (A := A7) (m := (data323.set (j327).toNat (rd data323 (w64 (j327 - 1)))).length) (n := ((data323.set (j327).toNat (rd data323 (w64 (j327 - 1)))).set (w64 (j327 - 1)).toNat (rd data323 j327)).length) (c := c8) (by kernel_rfl) (List.length_set).symm ?_
        refine gateRwS 37 (A := A7) (m := (data323.set (j327).toNat (rd data323 (w64 (j327 - 1)))).length) (n := ((data323.set (j327).toNat (rd data323 (w64 (j327 - 1)))).set (w64 (j327 - 1)).toNat (rd data323 j327)).length) (c := c8) (by kernel_rfl) (List.length_set).symm ?_
        refine gateRwS 39 (A := A7) (m := (data323.set (j327).toNat (rd data323 (w64 (j327 - 1)))).length) (n := ((data323.set (j327).toNat (rd data323 (w64 (j327 - 1)))).set (w64 (j327 - 1)).toNat (rd data323 j327)).length) (c := c8) (by kernel_rfl) (List.length_set).symm ?_
        refine gateRwS 42 (A := A7) (m := (data323.set (j327).toNat (rd data323 (w64 (j327 - 1)))).length) (n := ((data323.set (j327).toNat (rd data323 (w64 (j327 - 1)))).set (w64 (j327 - 1)).toNat (rd data323 j327)).length) (c := c8) (by kernel_rfl) (List.length_set).symm ?_
        refine gateRwS 47 (A := A7) (m := (data323.set (j327).toNat (rd data323 (w64 (j327 - 1)))).length) (n := ((data323.set (j327).toNat (rd data323 (w64 (j327 - 1)))).set (w64 (j327 - 1)).toNat (rd data323 j327)).length) (c := c8) (by kernel_rfl) (List.length_set).symm ?_
        refine doneG (by kernel_rfl) ?_ _
        refine hn363 _ _ ?_
        refine hK360 _ _ ?_
        refine wp_region_lit ?_
        refine seqS3 (a' := ⟨#[.slice A7 ((data323.set (j327).toNat (rd data323 (w64 (j327 - 1)))).set (w64 (j327 - 1)).toNat (rd data323 j327)).length c8, iV a13, iV b14, .func (.func 99) #[] #[.pointer (some ⟨b1, 0, none⟩)], uV, uV, uV, uV, iV i222, iV (w64 (j327 - 1)), iV a13, iV (w64 (a13 + 1)), iV i222, iV b14, .bool true, (j217 4), (j217 5), iV i222, iV j327, iV a13, .bool true, .bool true, .func (.func 99) #[] #[.pointer (some ⟨b1, 0, none⟩)], .slice A7 ((data323.set (j327).toNat (rd data323 (w64 (j327 - 1)))).set (w64 (j327 - 1)).toNat (rd data323 j327)).length c8, iV j327, .pointer (some ⟨b340, of341 + (j327 : Int).toNat * 1, none⟩), iV (rd data323 j327), .slice A7 ((data323.set (j327).toNat (rd data323 (w64 (j327 - 1)))).set (w64 (j327 - 1)).toNat (rd data323 j327)).length c8, iV j327, iV (w64 (j327 - 1)), .pointer (some ⟨b348, of349 + (w64 (j327 - 1) : Int).toNat * 1, none⟩), iV (rd data323 (w64 (j327 - 1))), iV vt351, .bool true, .bool true, iV j327, iV (w64 (j327 - 1)), .slice A7 ((data323.set (j327).toNat (rd data323 (w64 (j327 - 1)))).set (w64 (j327 - 1)).toNat (rd data323 j327)).length c8, iV j327, .slice A7 ((data323.set (j327).toNat (rd data323 (w64 (j327 - 1)))).set (w64 (j327 - 1)).toNat (rd data323 j327)).length c8, iV j327, iV (w64 (j327 - 1)), .slice A7 ((data323.set (j327).toNat (rd data323 (w64 (j327 - 1)))).set (w64 (j327 - 1)).toNat (rd data323 j327)).length c8, iV j327, iV (w64 (j327 - 1)), .pointer (some ⟨b348, of349 + (w64 (j327 - 1) : Int).toNat * 1, none⟩), iV (rd data323 (w64 (j327 - 1))), .slice A7 ((data323.set (j327).toNat (rd data323 (w64 (j327 - 1)))).set (w64 (j327 - 1)).toNat (rd data323 j327)).length c8, iV j327, .pointer (some ⟨b340, of341 + (j327 : Int).toNat * 1, none⟩), iV (rd data323 j327), .pointer (some ⟨b340, of341 + (j327 : Int).toNat * 1, none⟩), .pointer (some ⟨b379, of380 + (w64 (j327 - 1) : Int).toNat * 1, none⟩)], []⟩) (by kernel_rfl) ?_
        refine wpList_nil ?_
        refine hK316 n317 _ _ (Nat.lt_succ_self _) ?_
        have HS398 := HS384.u1
        exact ⟨f353, s383, ((data323.set (j327).toNat (rd data323 (w64 (j327 - 1)))).set (w64 (j327 - 1)).toNat (rd data323 j327)), (w64 (j327 - 1)), (fun i_ => [Value.int .i64 j327, Value.int .i64 a13, Value.bool true, Value.bool true, Value.func (.func 99) #[] #[.pointer (some ⟨b1, 0, none⟩)], Value.slice A7 ((data323.set (j327).toNat (rd data323 (w64 (j327 - 1)))).set (w64 (j327 - 1)).toNat (rd data323 j327)).length c8, Value.int .i64 j327, Value.pointer (some ⟨b340, of341 + (j327 : Int).toNat * 1, none⟩), Value.int .i64 (rd data323 j327), Value.slice A7 ((data323.set (j327).toNat (rd data323 (w64 (j327 - 1)))).set (w64 (j327 - 1)).toNat (rd data323 j327)).length c8, Value.int .i64 j327, Value.int .i64 (w64 (j327 - 1)), Value.pointer (some ⟨b348, of349 + (w64 (j327 - 1) : Int).toNat * 1, none⟩), Value.int .i64 (rd data323 (w64 (j327 - 1))), Value.int .i64 vt351, Value.bool true, Value.bool true, Value.int .i64 j327, Value.int .i64 (w64 (j327 - 1)), Value.slice A7 ((data323.set (j327).toNat (rd data323 (w64 (j327 - 1)))).set (w64 (j327 - 1)).toNat (rd data323 j327)).length c8, Value.int .i64 j327, Value.slice A7 ((data323.set (j327).toNat (rd data323 (w64 (j327 - 1)))).set (w64 (j327 - 1)).toNat (rd data323 j327)).length c8, Value.int .i64 j327, Value.int .i64 (w64 (j327 - 1)), Value.slice A7 ((data323.set (j327).toNat (rd data323 (w64 (j327 - 1)))).set (w64 (j327 - 1)).toNat (rd data323 j327)).length c8, Value.int .i64 j327, Value.int .i64 (w64 (j327 - 1)), Value.pointer (some ⟨b348, of349 + (w64 (j327 - 1) : Int).toNat * 1, none⟩), Value.int .i64 (rd data323 (w64 (j327 - 1))), Value.slice A7 ((data323.set (j327).toNat (rd data323 (w64 (j327 - 1)))).set (w64 (j327 - 1)).toNat (rd data323 j327)).length c8, Value.int .i64 j327, Value.pointer (some ⟨b340, of341 + (j327 : Int).toNat * 1, none⟩), Value.int .i64 (rd data323 j327), Value.pointer (some ⟨b340, of341 + (j327 : Int).toNat * 1, none⟩), Value.pointer (some ⟨b379, of380 + (w64 (j327 - 1) : Int).toNat * 1, none⟩)].getD i_ undef), (L319.trans L354), HS398, HO385, (List.length_set.trans (List.length_set.trans HL326)), h, (by kernel_rfl)⟩
      · have c358 : ¬ (vt351 < 0) := c358
        refine wpRwI 33 (x := (decide (vt351 < 0))) (v := false) (by kernel_rfl) (decide_eq_false c358) ?_
        refine wpRwI 34 (x := (decide (vt351 < 0))) (v := false) (by kernel_rfl) (decide_eq_false c358) ?_
        refine condF (by kernel_rfl) ?_
        refine wp_exit ?_
        refine hx241 _ _ ?_
        exact J396 f353 s324 data323 (fun i_ => [Value.int .i64 j327, Value.int .i64 j327, Value.int .i64 a13, Value.bool true, Value.bool true, Value.func (.func 99) #[] #[.pointer (some ⟨b1, 0, none⟩)], Value.slice A7 data323.length c8, Value.int .i64 j327, Value.pointer (some ⟨b340, of341 + (j327 : Int).toNat * 1, none⟩), Value.int .i64 (rd data323 j327), Value.slice A7 data323.length c8, Value.int .i64 j327, Value.int .i64 (w64 (j327 - 1)), Value.pointer (some ⟨b348, of349 + (w64 (j327 - 1) : Int).toNat * 1, none⟩), Value.int .i64 (rd data323 (w64 (j327 - 1))), Value.int .i64 vt351, Value.bool false, Value.bool false, (j322 17), (j322 18), (j322 19), (j322 20), (j322 21), (j322 22), (j322 23), (j322 24), (j322 25), (j322 26), (j322 27), (j322 28), (j322 29), (j322 30), (j322 31), (j322 32), (j322 33), (j322 34)].getD i_ undef) W355 _ (L319.trans L354) h HS356 (HO325.mono L354) HL326 (by kernel_rfl)
    · have c334 : ¬ (j327 > a13) := c334
      refine gateRwI 20 (x := (decide (j327 > a13))) (v := false) (by kernel_rfl) (decide_eq_false c334) ?_
      refine gateRwI 21 (x := (decide (j327 > a13))) (v := false) (by kernel_rfl) (decide_eq_false c334) ?_
      refine takeG [4, 5, 6, 7, 8, 9, 10, 11, 12, 13, 14, 15, 16] (n := 13) (fuel := 0) (l' := #[true, true, true, true, true, true, true, true, true, true, true, true, true, true, true, true, true]) (a' := ⟨#[.slice A7 data323.length c8, iV a13, iV b14, .func (.func 99) #[] #[.pointer (some ⟨b1, 0, none⟩)], uV, uV, uV, uV, iV i222, iV j327, iV a13, iV (w64 (a13 + 1)), iV i222, iV b14, .bool true, (j217 4), (j217 5), iV i222, iV j327, iV a13, .bool false, .bool false, uV, uV, uV, uV, uV, uV, uV, uV, uV, uV, uV, uV, .bool false, (j322 17), (j322 18), (j322 19), (j322 20), (j322 21), (j322 22), (j322 23), (j322 24), (j322 25), (j322 26), (j322 27), (j322 28), (j322 29), (j322 30), (j322 31), (j322 32), (j322 33), (j322 34)], []⟩) rfl (by kernel_rfl) (by kernel_rfl) (by kernel_rfl) (fun ch_ a_ w_ q_ => (fun ch_ a_ w_ q_ => (fun ch_ a_ w_ q_ => hnp ch_ a_ w_ (hp22 ch_ a_ w_ q_)) ch_ a_ w_ (hp236 ch_ a_ w_ q_)) ch_ a_ w_ (hp245 ch_ a_ w_ q_)) (Sg.g0 (Sx.of [] (FM.le.refl _) HS333)) ?_
      refine doneG (by kernel_rfl) ?_ _
      refine hK331 _ _ ?_
      refine condF (by kernel_rfl) ?_
      refine wp_exit ?_
      refine hx241 _ _ ?_
      exact J396 f318 s324 data323 (fun i_ => [Value.int .i64 j327, Value.int .i64 j327, Value.int .i64 a13, Value.bool false, Value.bool false, undef, undef, undef, undef, undef, undef, undef, undef, undef, undef, undef, undef, Value.bool false, (j322 17), (j322 18), (j322 19), (j322 20), (j322 21), (j322 22), (j322 23), (j322 24), (j322 25), (j322 26), (j322 27), (j322 28), (j322 29), (j322 30), (j322 31), (j322 32), (j322 33), (j322 34)].getD i_ undef) W332 _ L319 h HS333 HO325 HL326 (by kernel_rfl)
  · have c228 : ¬ (i222 < b14) := c228
    refine wpRwI 14 (x := (decide (i222 < b14))) (v := false) (by kernel_rfl) (decide_eq_false c228) ?_
    refine condF (by kernel_rfl) ?_
    refine wp_exit ?_
    refine hx18 _ _ ?_
    exact J409 f213 s219 data218 (fun i_ => [Value.int .i64 i222, (j217 0), Value.int .i64 i222, Value.int .i64 b14, Value.bool false, (j217 4), (j217 5), (j217 6), (j217 7), (j217 8), (j217 9), (j217 10), (j217 11), (j217 12), (j217 13), (j217 14), (j217 15), (j217 16), (j217 17), (j217 18), (j217 19), (j217 20), (j217 21), (j217 22), (j217 23), (j217 24), (j217 25), (j217 26), (j217 27), (j217 28), (j217 29), (j217 30), (j217 31), (j217 32), (j217 33), (j217 34), (j217 35), (j217 36), (j217 37), (j217 38), (j217 39), (j217 40), (j217 41)].getD i_ undef) W215 _ L214 h HS216 HO220 HL221 (by kernel_rfl)

set_option maxRecDepth 100000 in
set_option maxHeartbeats 4000000 in
theorem slices_swapRangeCmpFunc_int__level_known_1.calls (k : Nat) (b1 : Nat) (A4 : Option Addr) (c5 : Nat) (A7 : Option Addr) (c8 : Nat) (s9 : Seg) (v3 : S_Cells) (data11 : List Int) (a13 : Int) (b14 : Int) (n15 : Int) {t w : World} {f : FM} {H : List Seg} (HS : St t w f ([(b1, .cells #[.int .i64 v3.W, .int .i64 v3.H, .slice A4 v3.At.length c5] 34 (0, 0))] :: s9 :: H)) (HR6 : SlR ty_Bound f A4 c5 v3.At) (HO10 : Own (tInt .i64) 3 f A7 c8 s9 data11) (r1 : List Int) (h : slices_swapRangeCmpFunc_int__level_known_1 k v3 data11 a13 b14 n15 = some r1) :
    Calls Try.prog 147 #[.slice A7 data11.length c8, .int .i64 a13, .int .i64 b14, .int .i64 n15, .func (.func 99) #[] #[.pointer (some ⟨b1, 0, none⟩)]] w (fun e w' => ∃ (g : FM) (s159 : Seg), e = .returned (Value.tuple #[]) ∧ FM.le f g ∧ St t w' g ([(b1, .cells #[.int .i64 v3.W, .int .i64 v3.H, .slice A4 v3.At.length c5] 34 (0, 0))] :: s159 :: H) ∧ Own (tInt .i64) 3 g A7 c8 s159 r1 ∧ r1.length = data11.length) := by
  unfold slices_swapRangeCmpFunc_int__level_known_1 at h
  refine enter Try.func147 rfl (tm := #[.slice A7 data11.length c8, iV a13, iV b14, iV n15, .func (.func 99) #[] #[.pointer (some ⟨b1, 0, none⟩)], uV, uV, uV, uV, uV, uV, uV, uV, uV, uV, uV, uV, uV, uV, uV, uV, uV, uV, uV, uV, uV, uV, uV, uV, uV, uV, uV, uV, uV, uV, uV, uV, uV]) (by kernel_rfl) ?_
  intro B hret hnor hnp
  refine wp_seq_k (fun K16 hK17 => ?_)
  refine wp_region_lit ?_
  refine seqS1 (a' := ⟨#[.slice A7 data11.length c8, iV a13, iV b14, iV n15, .func (.func 99) #[] #[.pointer (some ⟨b1, 0, none⟩)], uV, uV, uV, uV, uV, iV 0, uV, uV, uV, uV, uV, uV, uV, uV, uV, uV, uV, uV, uV, uV, uV, uV, uV, uV, uV, uV, uV, uV, uV, uV, uV, uV, uV], []⟩) (by kernel_rfl) ?_
  refine wpList_nil ?_
  refine hK17 _ _ ?_
  refine blockK (fun B18 hx19 hn20 hr21 ho22 hp23 => ?_)
  have hq_ := bind_some h; clear h; obtain ⟨o83, hv155, h⟩ := hq_
  have J156 : ∀ (f146 : FM) (s152 : Seg) (data151 : List Int) (j150 : Nat → Value) (W148 : World) (a_ : Act), FM.le f f146 → some (data151) = some o83 → St t W148 f146 ([(b1, .cells #[.int .i64 v3.W, .int .i64 v3.H, .slice A4 v3.At.length c5] 34 (0, 0))] :: s152 :: H) → Own (tInt .i64) 3 f146 A7 c8 s152 data151 → data151.length = data11.length → a_ = ⟨#[.slice A7 data151.length c8, iV a13, iV b14, iV n15, .func (.func 99) #[] #[.pointer (some ⟨b1, 0, none⟩)], uV, uV, uV, uV, uV, (j150 0), (j150 1), (j150 2), (j150 3), (j150 4), (j150 5), (j150 6), (j150 7), (j150 8), (j150 9), (j150 10), (j150 11), (j150 12), (j150 13), (j150 14), (j150 15), (j150 16), (j150 17), (j150 18), (j150 19), (j150 20), (j150 21), (j150 22), (j150 23), (j150 24), (j150 25), (j150 26), (j150 27)], []⟩ → B Exit.normal a_ W148 := by
    intro f146 s152 data151 j150 W148 a_ L147 hj157 HS149 HO153 HL154 hfr_; subst hfr_
    injection hj157 with hj157; subst hj157; try dsimp only at h
    refine hnor _ _ ?_
    refine ends_still (v := Value.tuple #[]) (by kernel_rfl) (by kernel_rfl) ?_
    injection h with h
    subst h
    exact ⟨f146, s152, rfl, L147, HS149, HO153, HL154⟩
  clear h; have h := hv155; clear hv155
  refine loopK (fun n_ a_ w_ => ∃ (f87 : FM) (s93 : Seg) (data92 : List Int) (i96 : Int) (j91 : Nat → Value), FM.le f f87 ∧ St t w_ f87 ([(b1, .cells #[.int .i64 v3.W, .int .i64 v3.H, .slice A4 v3.At.length c5] 34 (0, 0))] :: s93 :: H) ∧ Own (tInt .i64) 3 f87 A7 c8 s93 data92 ∧ data92.length = data11.length ∧ slices_swapRangeCmpFunc_int__level_known_1.l0 k n15 b14 a13 n_ data92 i96 = some o83 ∧ a_ = ⟨#[.slice A7 data92.length c8, iV a13, iV b14, iV n15, .func (.func 99) #[] #[.pointer (some ⟨b1, 0, none⟩)], uV, uV, uV, uV, uV, iV i96, (j91 0), (j91 1), (j91 2), (j91 3), (j91 4), (j91 5), (j91 6), (j91 7), (j91 8), (j91 9), (j91 10), (j91 11), (j91 12), (j91 13), (j91 14), (j91 15), (j91 16), (j91 17), (j91 18), (j91 19), (j91 20), (j91 21), (j91 22), (j91 23), (j91 24), (j91 25), (j91 26)], []⟩) k ⟨f, s9, data11, 0, (fun i_ => [undef, undef, undef, undef, undef, undef, undef, undef, undef, undef, undef, undef, undef, undef, undef, undef, undef, undef, undef, undef, undef, undef, undef, undef, undef, undef, undef].getD i_ undef), (FM.le.refl _), HS, HO10, rfl, h, (by kernel_rfl)⟩ ?_
  clear h
  rintro n86 _ W89 ⟨f87, s93, data92, i96, j91, L88, HS90, HO94, HL95, h, rfl⟩ K84 hK85
  obtain _ | n86 := n86
  · exact nomatch h
  simp only [slices_swapRangeCmpFunc_int__level_known_1.l0] at h
  refine wp_seq_k (fun K97 hK98 => ?_)
  refine wp_seq_k (fun K99 hK100 => ?_)
  refine wp_region_lit ?_
  refine seqS3 (a' := ⟨#[.slice A7 data92.length c8, iV a13, iV b14, iV n15, .func (.func 99) #[] #[.pointer (some ⟨b1, 0, none⟩)], uV, uV, uV, uV, uV, iV i96, iV i96, iV n15, .bool (decide (i96 < n15)), (j91 3), (j91 4), (j91 5), (j91 6), (j91 7), (j91 8), (j91 9), (j91 10), (j91 11), (j91 12), (j91 13), (j91 14), (j91 15), (j91 16), (j91 17), (j91 18), (j91 19), (j91 20), (j91 21), (j91 22), (j91 23), (j91 24), (j91 25), (j91 26)], []⟩) (by kernel_rfl) ?_
  refine wpList_nil ?_
  refine hK100 _ _ ?_
  have hq_ := ite_some h; clear h; rcases hq_ with ⟨c102, h⟩ | ⟨c102, h⟩
  · have c102 : i96 < n15 := c102
    refine wpRwI 13 (x := (decide (i96 < n15))) (v := true) (by kernel_rfl) (decide_eq_true c102) ?_
    refine condT (by kernel_rfl) ?_
    refine wp_skip ?_
    refine hK98 _ _ ?_
    refine wp_seq_k (fun K103 hK104 => ?_)
    refine blockK (fun B105 hx106 hn107 hr108 ho109 hp110 => ?_)
    have HS112 := HS90.u1
    refine heldG (S := Sg t f87 ([(b1, .cells #[.int .i64 v3.W, .int .i64 v3.H, .slice A4 v3.At.length c5] 34 (0, 0))] :: H) [(21, s93)]) (n := 24) (by kernel_rfl) rfl HS112 ?_
    intro W113 HS114
    have hq_ := guard_some h; clear h; obtain ⟨c115, h⟩ := hq_
    have c115 : 0 ≤ (w64 (b14 + i96)) := c115
    have hq_ := guard_some h; clear h; obtain ⟨c116, h⟩ := hq_
    have c116 : (w64 (b14 + i96)) < (data92.length : Int) := c116
    obtain ⟨b120, of121, cs117, hA122, hr118, hc119⟩ := HO94.at (i := w64 (b14 + i96)) c115 c116
    obtain rfl := hr118
    refine takeG [0, 1, 2, 3, 4, 5, 6, 7, 8, 9, 10, 11] (n := 24) (fuel := 12) (l' := #[true, true, true, true, true, true, true, true, true, true, true, true, false, false, false, false, false, false, false, false, false, false, false, false]) (a' := ⟨#[.slice A7 data92.length c8, iV a13, iV b14, iV n15, .func (.func 99) #[] #[.pointer (some ⟨b1, 0, none⟩)], uV, uV, uV, uV, uV, iV i96, iV i96, iV n15, .bool true, (j91 3), (j91 4), .slice A7 data92.length c8, iV a13, iV i96, iV (w64 (a13 + i96)), .slice A7 data92.length c8, iV b14, iV i96, iV (w64 (b14 + i96)), .slice A7 data92.length c8, iV b14, iV i96, iV (w64 (b14 + i96)), (j91 17), (j91 18), (j91 19), (j91 20), (j91 21), (j91 22), (j91 23), (j91 24), (j91 25), (j91 26)], []⟩) rfl (by kernel_rfl) (by kernel_rfl) (by kernel_rfl) (fun ch_ a_ w_ q_ => (fun ch_ a_ w_ q_ => hnp ch_ a_ w_ (hp23 ch_ a_ w_ q_)) ch_ a_ w_ (hp110 ch_ a_ w_ q_)) (Sg.g1 (Sx.of [s93] (FM.le.refl _) HS114) (fun _ => St.only [] HS114 (FM.le.refl _))) ?_
    refine takeGQ 12 [] rfl (by kernel_rfl) (by kernel_rfl) (by kernel_rfl) (by kernel_rfl) (by kernel_rfl) (by kernel_rfl) (fun ch_ a_ w_ q_ => (fun ch_ a_ w_ q_ => hnp ch_ a_ w_ (hp23 ch_ a_ w_ q_)) ch_ a_ w_ (hp110 ch_ a_ w_ q_)) (Sg.g1 (Sx.of [s93] (FM.le.refl _) HS114) (fun _ => St.only [] HS114 (FM.le.refl _))) (fun w_ hw_ => by obtain ⟨g_, hl_, hS_⟩ := hw_.st; exact run_indexE hA122 (sz := 1) rfl Try.underlying22 (by kernel_rfl) (by kernel_rfl : _ = Value.slice A7 data92.length c8) (by kernel_rfl : _ = Value.int .i64 (w64 (b14 + i96))) c115 c116 w_) ?_
    refine takeGQ 13 [21] rfl (by kernel_rfl) (by kernel_rfl) (by kernel_rfl) (by kernel_rfl) (by kernel_rfl) (by kernel_rfl) (fun ch_ a_ w_ q_ => (fun ch_ a_ w_ q_ => hnp ch_ a_ w_ (hp23 ch_ a_ w_ q_)) ch_ a_ w_ (hp110 ch_ a_ w_ q_)) (Sg.g1 (Sx.of [s93] (FM.le.refl _) HS114) (fun _ => St.only [] HS114 (FM.le.refl _))) (fun w_ hw_ => by obtain ⟨g_, hl_, hS_⟩ := hw_.seg (j := 21) (s := s93) (by simp) (by simp); exact run_load rfl Try.underlying3 rfl (by kernel_rfl : _ = Value.pointer (some ⟨b120, of121 + (w64 (b14 + i96) : Int).toNat * 1, none⟩)) ((hc119 hS_) 0 (by decide))) ?_
    have hq_ := guard_some h; clear h; obtain ⟨c123, h⟩ := hq_
    have c123 : 0 ≤ (w64 (a13 + i96)) := c123
    have hq_ := guard_some h; clear h; obtain ⟨c124, h⟩ := hq_
    have c124 : (w64 (a13 + i96)) < (data92.length : Int) := c124
    obtain ⟨b128, of129, cs125, hA130, hr126, hc127⟩ := HO94.at (i := w64 (a13 + i96)) c123 c124
    obtain rfl := hr126
    refine takeG [14, 15, 16, 17] (n := 10) (fuel := 6) (l' := #[true, true, true, true, true, true, true, true, true, true, true, true, true, true, true, true, true, true, false, false, false, false, false, false]) (a' := ⟨#[.slice A7 data92.length c8, iV a13, iV b14, iV n15, .func (.func 99) #[] #[.pointer (some ⟨b1, 0, none⟩)], uV, uV, uV, uV, uV, iV i96, iV i96, iV n15, .bool true, (j91 3), (j91 4), .slice A7 data92.length c8, iV a13, iV i96, iV (w64 (a13 + i96)), .slice A7 data92.length c8, iV b14, iV i96, iV (w64 (b14 + i96)), .slice A7 data92.length c8, iV b14, iV i96, iV (w64 (b14 + i96)), .pointer (some ⟨b120, of121 + (w64 (b14 + i96) : Int).toNat * 1, none⟩), iV (rd data92 (w64 (b14 + i96))), .slice A7 data92.length c8, iV a13, iV i96, iV (w64 (a13 + i96)), (j91 23), (j91 24), (j91 25), (j91 26)], []⟩) rfl (by kernel_rfl) (by kernel_rfl) (by kernel_rfl) (fun ch_ a_ w_ q_ => (fun ch_ a_ w_ q_ => hnp ch_ a_ w_ (hp23 ch_ a_ w_ q_)) ch_ a_ w_ (hp110 ch_ a_ w_ q_)) (Sg.g1 (Sx.of [s93] (FM.le.refl _) HS114) (fun _ => St.only [] HS114 (FM.le.refl _))) ?_
    refine takeGQ 18 [] rfl (by kernel_rfl) (by kernel_rfl) (by kernel_rfl) (by kernel_rfl) (by kernel_rfl) (by kernel_rfl) (fun ch_ a_ w_ q_ => (fun ch_ a_ w_ q_ => hnp ch_ a_ w_ (hp23 ch_ a_ w_ q_)) ch_ a_ w_ (hp110 ch_ a_ w_ q_)) (Sg.g1 (Sx.of [s93] (FM.le.refl _) HS114) (fun _ => St.only [] HS114 (FM.le.refl _))) (fun w_ hw_ => by obtain ⟨g_, hl_, hS_⟩ := hw_.st; exact run_indexE hA130 (sz := 1) rfl Try.underlying22 (by kernel_rfl) (by kernel_rfl : _ = Value.slice A7 data92.length c8) (by kernel_rfl : _ = Value.int .i64 (w64 (a13 + i96))) c123 c124 w_) ?_
    refine takeGQ 19 [21] rfl (by kernel_rfl) (by kernel_rfl) (by kernel_rfl) (by kernel_rfl) (by kernel_rfl) (by kernel_rfl) (fun ch_ a_ w_ q_ => (fun ch_ a_ w_ q_ => hnp ch_ a_ w_ (hp23 ch_ a_ w_ q_)) ch_ a_ w_ (hp110 ch_ a_ w_ q_)) (Sg.g1 (Sx.of [s93] (FM.le.refl _) HS114) (fun _ => St.only [] HS114 (FM.le.refl _))) (fun w_ hw_ => by obtain ⟨g_, hl_, hS_⟩ := hw_.seg (j := 21) (s := s93) (by simp) (by simp); exact run_load rfl Try.underlying3 rfl (by kernel_rfl : _ = Value.pointer (some ⟨b128, of129 + (w64 (a13 + i96) : Int).toNat * 1, none⟩)) ((hc127 hS_) 0 (by decide))) ?_
    refine takeGQ 20 [] rfl (by kernel_rfl) (by kernel_rfl) (by kernel_rfl) (by kernel_rfl) (by kernel_rfl) (by kernel_rfl) (fun ch_ a_ w_ q_ => (fun ch_ a_ w_ q_ => hnp ch_ a_ w_ (hp23 ch_ a_ w_ q_)) ch_ a_ w_ (hp110 ch_ a_ w_ q_)) (Sg.g1 (Sx.of [s93] (FM.le.refl _) HS114) (fun _ => St.only [] HS114 (FM.le.refl _))) (fun w_ hw_ => by obtain ⟨g_, hl_, hS_⟩ := hw_.st; exact run_indexE hA130 (sz := 1) rfl Try.underlying22 (by kernel_rfl) (by kernel_rfl : _ = Value.slice A7 data92.length c8) (by kernel_rfl : _ = Value.int .i64 (w64 (a13 + i96))) c123 c124 w_) ?_
    refine takeGE 21 (by kernel_rfl) rfl (by kernel_rfl) (does_put (e := (tInt .i64)) (E := 3) (vs := [.int .i64 (rd data92 (w64 (b14 + i96)))]) (u := (rd data92 (w64 (b14 + i96)))) (i := w64 (a13 + i96)) rfl (by kernel_rfl) HO94 HS114 hA130 (by kernel_rfl : _ = Value.pointer (some ⟨b128, of129 + (w64 (a13 + i96) : Int).toNat * 1, none⟩)) (by kernel_rfl : _ = Value.int .i64 (rd data92 (w64 (b14 + i96)))) rfl rfl c123 c124 ?_)
    intro W131 s132 HS133 HO134
    refine ⟨(Sg.g1 (Sx.of [s132] (FM.le.refl _) HS133) (fun hl_ => Bool.noConfusion (show true = false from hl_))), ?_⟩
    refine gateRwS 0 (A := A7) (m := data92.length) (n := (data92.set (w64 (a13 + i96)).toNat (rd data92 (w64 (b14 + i96)))).length) (c := c8) (by kernel_rfl) (List.length_set).symm ?_
    refine gateRwS 16 (A := A7) (m := data92.length) (n := (data92.set (w64 (a13 + i96)).toNat (rd data92 (w64 (b14 + i96)))).length) (c := c8) (by kernel_rfl) (List.length_set).symm ?_
    refine gateRwS 20 (A := A7) (m := data92.length) (n := (data92.set (w64 (a13 + i96)).toNat (rd data92 (w64 (b14 + i96)))).length) (c := c8) (by kernel_rfl) (List.length_set).symm ?_
    refine gateRwS 24 (A := A7) (m := data92.length) (n := (data92.set (w64 (a13 + i96)).toNat (rd data92 (w64 (b14 + i96)))).length) (c := c8) (by kernel_rfl) (List.length_set).symm ?_
    refine gateRwS 30 (A := A7) (m := data92.length) (n := (data92.set (w64 (a13 + i96)).toNat (rd data92 (w64 (b14 + i96)))).length) (c := c8) (by kernel_rfl) (List.length_set).symm ?_
    have hq_ := guard_some h; clear h; obtain ⟨c135, h⟩ := hq_
    have c135 : (w64 (b14 + i96)) < ((data92.set (w64 (a13 + i96)).toNat (rd data92 (w64 (b14 + i96)))).length : Int) := c135
    obtain ⟨b139, of140, cs136, hA141, hr137, hc138⟩ := HO134.at (i := w64 (b14 + i96)) c115 c135
    obtain rfl := hr137
    refine takeGQ 22 [] rfl (by kernel_rfl) (by kernel_rfl) (by kernel_rfl) (by kernel_rfl) (by kernel_rfl) (by kernel_rfl) (fun ch_ a_ w_ q_ => (fun ch_ a_ w_ q_ => hnp ch_ a_ w_ (hp23 ch_ a_ w_ q_)) ch_ a_ w_ (hp110 ch_ a_ w_ q_)) (Sg.g1 (Sx.of [s132] (FM.le.refl _) HS133) (fun hl_ => Bool.noConfusion (show true = false from hl_))) (fun w_ hw_ => by obtain ⟨g_, hl_, hS_⟩ := hw_.st; exact run_indexE hA141 (sz := 1) rfl Try.underlying22 (by kernel_rfl) (by kernel_rfl : _ = Value.slice A7 (data92.set (w64 (a13 + i96)).toNat (rd data92 (w64 (b14 + i96)))).length c8) (by kernel_rfl : _ = Value.int .i64 (w64 (b14 + i96))) c115 c135 w_) ?_
    refine takeGE 23 (by kernel_rfl) rfl (by kernel_rfl) (does_put (e := (tInt .i64)) (E := 3) (vs := [.int .i64 (rd data92 (w64 (a13 + i96)))]) (u := (rd data92 (w64 (a13 + i96)))) (i := w64 (b14 + i96)) rfl (by kernel_rfl) HO134 HS133 hA141 (by kernel_rfl : _ = Value.pointer (some ⟨b139, of140 + (w64 (b14 + i96) : Int).toNat * 1, none⟩)) (by kernel_rfl : _ = Value.int .i64 (rd data92 (w64 (a13 + i96)))) rfl rfl c115 c135 ?_)
    intro W142 s143 HS144 HO145
    refine ⟨(Sg.g1 (Sx.of [s143] (FM.le.refl _) HS144) (fun hl_ => Bool.noConfusion (show true = false from hl_))), ?_⟩
    refine gateRwS 0 (A := A7) (m := (data92.set (w64 (a13 + i96)).toNat (rd data92 (w64 (b14 + i96)))).length) (n := ((data92.set (w64 (a13 + i96)).toNat (rd data92 (w64 (b14 + i96)))).set (w64 (b14 + i96)).toNat (rd data92 (w64 (a13 + i96)))).length) (c := c8) (by kernel_rfl) (List.length_set).symm ?_
    refine gateRwS 16 (A := A7) (m := (data92.set (w64 (a13 + i96)).toNat (rd data92 (w64 (b14 + i96)))).length) (n := ((data92.set (w64 (a13 + i96)).toNat (rd data92 (w64 (b14 + i96)))).set (w64 (b14 + i96)).toNat (rd data92 (w64 (a13 + i96)))).length) (c := c8) (by kernel_rfl) (List.length_set).symm ?_
    refine gateRwS 20 (A := A7) (m := (data92.set (w64 (a13 + i96)).toNat (rd data92 (w64 (b14 + i96)))).length) (n := ((data92.set (w64 (a13 + i96)).toNat (rd data92 (w64 (b14 + i96)))).set (w64 (b14 + i96)).toNat (rd data92 (w64 (a13 + i96)))).length) (c := c8) (by kernel_rfl) (List.length_set).symm ?_
    refine gateRwS 24 (A := A7) (m := (data92.set (w64 (a13 + i96)).toNat (rd data92 (w64 (b14 + i96)))).length) (n := ((data92.set (w64 (a13 + i96)).toNat (rd data92 (w64 (b14 + i96)))).set (w64 (b14 + i96)).toNat (rd data92 (w64 (a13 + i96)))).length) (c := c8) (by kernel_rfl) (List.length_set).symm ?_
    refine gateRwS 30 (A := A7) (m := (data92.set (w64 (a13 + i96)).toNat (rd data92 (w64 (b14 + i96)))).length) (n := ((data92.set (w64 (a13 + i96)).toNat (rd data92 (w64 (b14 + i96)))).set (w64 (b14 + i96)).toNat (rd data92 (w64 (a13 + i96)))).length) (c := c8) (by kernel_rfl) (List.length_set).symm ?_
    refine doneG (by kernel_rfl) ?_ _
    refine hn107 _ _ ?_
    refine hK104 _ _ ?_
    refine wp_region_lit ?_
    refine seqS3 (a' := ⟨#[.slice A7 ((data92.set (w64 (a13 + i96)).toNat (rd data92 (w64 (b14 + i96)))).set (w64 (b14 + i96)).toNat (rd data92 (w64 (a13 + i96)))).length c8, iV a13, iV b14, iV n15, .func (.func 99) #[] #[.pointer (some ⟨b1, 0, none⟩)], uV, uV, uV, uV, uV, iV (w64 (i96 + 1)), iV i96, iV n15, .bool true, iV i96, iV (w64 (i96 + 1)), .slice A7 ((data92.set (w64 (a13 + i96)).toNat (rd data92 (w64 (b14 + i96)))).set (w64 (b14 + i96)).toNat (rd data92 (w64 (a13 + i96)))).length c8, iV a13, iV i96, iV (w64 (a13 + i96)), .slice A7 ((data92.set (w64 (a13 + i96)).toNat (rd data92 (w64 (b14 + i96)))).set (w64 (b14 + i96)).toNat (rd data92 (w64 (a13 + i96)))).length c8, iV b14, iV i96, iV (w64 (b14 + i96)), .slice A7 ((data92.set (w64 (a13 + i96)).toNat (rd data92 (w64 (b14 + i96)))).set (w64 (b14 + i96)).toNat (rd data92 (w64 (a13 + i96)))).length c8, iV b14, iV i96, iV (w64 (b14 + i96)), .pointer (some ⟨b120, of121 + (w64 (b14 + i96) : Int).toNat * 1, none⟩), iV (rd data92 (w64 (b14 + i96))), .slice A7 ((data92.set (w64 (a13 + i96)).toNat (rd data92 (w64 (b14 + i96)))).set (w64 (b14 + i96)).toNat (rd data92 (w64 (a13 + i96)))).length c8, iV a13, iV i96, iV (w64 (a13 + i96)), .pointer (some ⟨b128, of129 + (w64 (a13 + i96) : Int).toNat * 1, none⟩), iV (rd data92 (w64 (a13 + i96))), .pointer (some ⟨b128, of129 + (w64 (a13 + i96) : Int).toNat * 1, none⟩), .pointer (some ⟨b139, of140 + (w64 (b14 + i96) : Int).toNat * 1, none⟩)], []⟩) (by kernel_rfl) ?_
    refine wpList_nil ?_
    refine hK85 n86 _ _ (Nat.lt_succ_self _) ?_
    have HS158 := HS144.u1
    exact ⟨f87, s143, ((data92.set (w64 (a13 + i96)).toNat (rd data92 (w64 (b14 + i96)))).set (w64 (b14 + i96)).toNat (rd data92 (w64 (a13 + i96)))), (w64 (i96 + 1)), (fun i_ => [Value.int .i64 i96, Value.int .i64 n15, Value.bool true, Value.int .i64 i96, Value.int .i64 (w64 (i96 + 1)), Value.slice A7 ((data92.set (w64 (a13 + i96)).toNat (rd data92 (w64 (b14 + i96)))).set (w64 (b14 + i96)).toNat (rd data92 (w64 (a13 + i96)))).length c8, Value.int .i64 a13, Value.int .i64 i96, Value.int .i64 (w64 (a13 + i96)), Value.slice A7 ((data92.set (w64 (a13 + i96)).toNat (rd data92 (w64 (b14 + i96)))).set (w64 (b14 + i96)).toNat (rd data92 (w64 (a13 + i96)))).length c8, Value.int .i64 b14, Value.int .i64 i96, Value.int .i64 (w64 (b14 + i96)), Value.slice A7 ((data92.set (w64 (a13 + i96)).toNat (rd data92 (w64 (b14 + i96)))).set (w64 (b14 + i96)).toNat (rd data92 (w64 (a13 + i96)))).length c8, Value.int .i64 b14, Value.int .i64 i96, Value.int .i64 (w64 (b14 + i96)), Value.pointer (some ⟨b120, of121 + (w64 (b14 + i96) : Int).toNat * 1, none⟩), Value.int .i64 (rd data92 (w64 (b14 + i96))), Value.slice A7 ((data92.set (w64 (a13 + i96)).toNat (rd data92 (w64 (b14 + i96)))).set (w64 (b14 + i96)).toNat (rd data92 (w64 (a13 + i96)))).length c8, Value.int .i64 a13, Value.int .i64 i96, Value.int .i64 (w64 (a13 + i96)), Value.pointer (some ⟨b128, of129 + (w64 (a13 + i96) : Int).toNat * 1, none⟩), Value.int .i64 (rd data92 (w64 (a13 + i96))), Value.pointer (some ⟨b128, of129 + (w64 (a13 + i96) : Int).toNat * 1, none⟩), Value.pointer (some ⟨b139, of140 + (w64 (b14 + i96) : Int).toNat * 1, none⟩)].getD i_ undef), L88, HS158, HO145, (List.length_set.trans (List.length_set.trans HL95)), h, (by kernel_rfl)⟩
  · have c102 : ¬ (i96 < n15) := c102
    refine wpRwI 13 (x := (decide (i96 < n15))) (v := false) (by kernel_rfl) (decide_eq_false c102) ?_
    refine condF (by kernel_rfl) ?_
    refine wp_exit ?_
    refine hx19 _ _ ?_
    exact J156 f87 s93 data92 (fun i_ => [Value.int .i64 i96, Value.int .i64 i96, Value.int .i64 n15, Value.bool false, (j91 3), (j91 4), (j91 5), (j91 6), (j91 7), (j91 8), (j91 9), (j91 10), (j91 11), (j91 12), (j91 13), (j91 14), (j91 15), (j91 16), (j91 17), (j91 18), (j91 19), (j91 20), (j91 21), (j91 22), (j91 23), (j91 24), (j91 25), (j91 26)].getD i_ undef) W89 _ L88 h HS90 HO94 HL95 (by kernel_rfl)

end Go.Sp.T8
