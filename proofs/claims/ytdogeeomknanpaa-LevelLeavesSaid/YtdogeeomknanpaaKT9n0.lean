import Derived.Test.YtdogeeomknanpaaProg
import Derived.Test.YtdogeeomknanpaaSpCopy
import Derived.Test.YtdogeeomknanpaaFT9
import Derived.Test.YtdogeeomknanpaaSpSort
import Derived.Test.YtdogeeomknanpaaShelf
namespace Go.Sp.T9
open Go Go.Sp Go.Proofs
set_option linter.unusedVariables false
attribute [local irreducible] wpList AnyL Code.wp Calls Does
def ty_Stream : Ty S_Stream where
  sz := 2
  rep := fun f cs x => ∃ (A0 : Option Addr) (c0 : Nat), cs = [.slice A0 x.L.length c0, .int .i64 x.vat] ∧ SlR (tInt .i64) f A0 c0 x.L
  pos := by decide
  len := by rintro f cs x ⟨A0, c0, rfl, h0⟩; rfl
  mono := by rintro f g cs x hl ⟨A0, c0, rfl, h0⟩; exact ⟨A0, c0, rfl, h0.mono hl⟩
  one := by
    rintro f cs x ⟨A0, c0, rfl, h0⟩ v hv
    simp only [List.mem_cons, List.not_mem_nil, or_false] at hv
    rcases hv with rfl | rfl <;> rfl
def ty_Bound : Ty S_Bound where
  sz := 3
  rep := fun f cs x => cs = [.int .i64 x.Lo, .int .i64 x.Hi, .bool x.Unknown]
  pos := by decide
  len := by rintro f cs x rfl; rfl
  mono := by rintro f g cs x hl rfl; exact rfl
  one := by
    rintro f cs x rfl v hv
    simp only [List.mem_cons, List.not_mem_nil, or_false] at hv
    rcases hv with rfl | rfl | rfl <;> rfl
def ty_Cells : Ty S_Cells where
  sz := 3
  rep := fun f cs x => ∃ (A2 : Option Addr) (c2 : Nat), cs = [.int .i64 x.W, .int .i64 x.H, .slice A2 x.At.length c2] ∧ SlR ty_Bound f A2 c2 x.At
  pos := by decide
  len := by rintro f cs x ⟨A2, c2, rfl, h2⟩; rfl
  mono := by rintro f g cs x hl ⟨A2, c2, rfl, h2⟩; exact ⟨A2, c2, rfl, h2.mono hl⟩
  one := by
    rintro f cs x ⟨A2, c2, rfl, h2⟩ v hv
    simp only [List.mem_cons, List.not_mem_nil, or_false] at hv
    rcases hv with rfl | rfl | rfl <;> rfl
theorem inf44 : Inf Try.prog 44 3 24 (.agg #[.int .i64 0, .int .i64 0, .bool false]) := .mk' (by kernel_rfl) rfl
theorem inf3 : Inf Try.prog 3 1 8 (.int .i64 0) := .mk' (by kernel_rfl) rfl

set_option maxRecDepth 100000 in
set_option maxHeartbeats 4000000 in
theorem spymake_Below.calls (k : Nat)  (x1 : Int) (n2 : Int) {t w : World} {f : FM} {H : List Seg} (HS : St t w f (H)) (r1 : Int) (h : spymake_Below k x1 n2 = some r1) :
    Calls Try.prog 10 #[.int .i64 x1, .int .i64 n2] w (fun e w' => ∃ (g : FM), e = .returned (Value.int .i64 r1) ∧ FM.le f g ∧ St t w' g (H)) := by
  unfold spymake_Below at h
  refine enter Try.func10 rfl (tm := #[iV x1, iV n2, uV, uV, uV, uV, uV, uV, uV, uV, uV, uV, uV, uV, uV, uV]) (by kernel_rfl) ?_
  intro B hret hnor hnp
  refine wp_seq_k (fun K3 hK4 => ?_)
  refine wp_region_lit ?_
  refine seqS1 (a' := ⟨#[iV x1, iV n2, uV, uV, iV 0, uV, uV, uV, uV, uV, uV, uV, uV, uV, uV, uV], []⟩) (by kernel_rfl) ?_
  refine wpList_nil ?_
  refine hK4 _ _ ?_
  refine wp_seq_k (fun K5 hK6 => ?_)
  refine wp_seq_k (fun K7 hK8 => ?_)
  refine wp_region_lit ?_
  refine seqS2 (a' := ⟨#[iV x1, iV n2, uV, uV, iV 0, iV n2, .bool (decide (n2 < 1)), uV, uV, uV, uV, uV, uV, uV, uV, uV], []⟩) (by kernel_rfl) ?_
  refine wpList_nil ?_
  refine hK8 _ _ ?_
  have hq_ := ite_some h; clear h; rcases hq_ with ⟨c10, h⟩ | ⟨c10, h⟩
  · have c10 : n2 < 1 := c10
    refine wpRwI 6 (x := (decide (n2 < 1))) (v := true) (by kernel_rfl) (decide_eq_true c10) ?_
    refine condT (by kernel_rfl) ?_
    refine wp_seq_k (fun K11 hK12 => ?_)
    refine wp_region_lit ?_
    refine seqS1 (a' := ⟨#[iV x1, iV n2, uV, uV, iV 0, iV n2, .bool true, uV, uV, uV, uV, uV, uV, uV, uV, uV], []⟩) (by kernel_rfl) ?_
    refine wpList_nil ?_
    refine hK12 _ _ ?_
    refine wp_ret ?_
    refine hret _ _ ?_
    refine ends_still (v := Value.int .i64 0) (by kernel_rfl) (by kernel_rfl) ?_
    injection h with h
    subst h
    exact ⟨f, rfl, FM.le.refl _, HS⟩
  · have c10 : ¬ (n2 < 1) := c10
    refine wpRwI 6 (x := (decide (n2 < 1))) (v := false) (by kernel_rfl) (decide_eq_false c10) ?_
    refine condF (by kernel_rfl) ?_
    refine wp_skip ?_
    refine hK6 _ _ ?_
    refine wp_seq_k (fun K13 hK14 => ?_)
    refine wp_region_lit ?_
    have hq_ := guard_some h; clear h; obtain ⟨c15, h⟩ := hq_
    have c15 : ¬ (n2 = 0) := c15
    refine seqL2 (by kernel_rfl) ?_
    refine seqK rfl (does_run (run_rem rfl (by kernel_rfl : _ = Value.int .i64 x1) (by kernel_rfl : _ = Value.int .i64 n2) c15 w) ?_)
    refine seqS1 (a' := ⟨#[iV (Int.tmod x1 n2), iV n2, uV, uV, iV 0, iV n2, .bool false, iV x1, iV n2, iV (Int.tmod x1 n2), uV, uV, uV, uV, uV, uV], []⟩) (by kernel_rfl) ?_
    refine wpList_nil ?_
    refine hK14 _ _ ?_
    refine wp_seq_k (fun K16 hK17 => ?_)
    refine wp_seq_k (fun K18 hK19 => ?_)
    refine wp_region_lit ?_
    refine seqS2 (a' := ⟨#[iV (Int.tmod x1 n2), iV n2, uV, uV, iV 0, iV n2, .bool false, iV x1, iV n2, iV (Int.tmod x1 n2), iV (Int.tmod x1 n2), .bool (decide ((Int.tmod x1 n2) < 0)), uV, uV, uV, uV], []⟩) (by kernel_rfl) ?_
    refine wpList_nil ?_
    refine hK19 _ _ ?_
    have hq_ := ite_some h; clear h; rcases hq_ with ⟨c21, h⟩ | ⟨c21, h⟩
    · have c21 : (Int.tmod x1 n2) < 0 := c21
      refine wpRwI 11 (x := (decide ((Int.tmod x1 n2) < 0))) (v := true) (by kernel_rfl) (decide_eq_true c21) ?_
      refine condT (by kernel_rfl) ?_
      refine wp_region_lit ?_
      refine seqS4 (a' := ⟨#[iV (w64 ((Int.tmod x1 n2) + n2)), iV n2, uV, uV, iV 0, iV n2, .bool false, iV x1, iV n2, iV (Int.tmod x1 n2), iV (Int.tmod x1 n2), .bool true, iV (Int.tmod x1 n2), iV n2, iV (w64 ((Int.tmod x1 n2) + n2)), uV], []⟩) (by kernel_rfl) ?_
      refine wpList_nil ?_
      refine hK17 _ _ ?_
      refine wp_seq_k (fun K22 hK23 => ?_)
      refine wp_region_lit ?_
      refine seqS2 (a' := ⟨#[iV (w64 ((Int.tmod x1 n2) + n2)), iV n2, uV, uV, iV (w64 ((Int.tmod x1 n2) + n2)), iV n2, .bool false, iV x1, iV n2, iV (Int.tmod x1 n2), iV (Int.tmod x1 n2), .bool true, iV (Int.tmod x1 n2), iV n2, iV (w64 ((Int.tmod x1 n2) + n2)), iV (w64 ((Int.tmod x1 n2) + n2))], []⟩) (by kernel_rfl) ?_
      refine wpList_nil ?_
      refine hK23 _ _ ?_
      refine wp_ret ?_
      refine hret _ _ ?_
      refine ends_still (v := Value.int .i64 (w64 ((Int.tmod x1 n2) + n2))) (by kernel_rfl) (by kernel_rfl) ?_
      injection h with h
      subst h
      exact ⟨f, rfl, FM.le.refl _, HS⟩
    · have c21 : ¬ ((Int.tmod x1 n2) < 0) := c21
      refine wpRwI 11 (x := (decide ((Int.tmod x1 n2) < 0))) (v := false) (by kernel_rfl) (decide_eq_false c21) ?_
      refine condF (by kernel_rfl) ?_
      refine wp_skip ?_
      refine hK17 _ _ ?_
      refine wp_seq_k (fun K24 hK25 => ?_)
      refine wp_region_lit ?_
      refine seqS2 (a' := ⟨#[iV (Int.tmod x1 n2), iV n2, uV, uV, iV (Int.tmod x1 n2), iV n2, .bool false, iV x1, iV n2, iV (Int.tmod x1 n2), iV (Int.tmod x1 n2), .bool false, uV, uV, uV, iV (Int.tmod x1 n2)], []⟩) (by kernel_rfl) ?_
      refine wpList_nil ?_
      refine hK25 _ _ ?_
      refine wp_ret ?_
      refine hret _ _ ?_
      refine ends_still (v := Value.int .i64 (Int.tmod x1 n2)) (by kernel_rfl) (by kernel_rfl) ?_
      injection h with h
      subst h
      exact ⟨f, rfl, FM.le.refl _, HS⟩

set_option maxRecDepth 100000 in
set_option maxHeartbeats 4000000 in
theorem spymake_Stream_Next.calls (k : Nat) (b1 : Nat) (A4 : Option Addr) (c5 : Nat) (s3 : S_Stream) (n7 : Int) {t w : World} {f : FM} {H : List Seg} (HS : St t w f ([(b1, .cells #[.slice A4 s3.L.length c5, .int .i64 s3.vat] 25 (0, 0))] :: H)) (HR6 : SlR (tInt .i64) f A4 c5 s3.L) (r1 : Int) (r2 : Int) (h : spymake_Stream_Next k s3 n7 = some (r1, r2)) :
    Calls Try.prog 12 #[.pointer (some ⟨b1, 0, none⟩), .int .i64 n7] w (fun e w' => ∃ (g : FM), e = .returned (Value.int .i64 r1) ∧ FM.le f g ∧ St t w' g ([(b1, .cells #[.slice A4 s3.L.length c5, .int .i64 r2] 25 (0, 0))] :: H)) := by
  unfold spymake_Stream_Next at h
  refine enter Try.func12 rfl (tm := #[.pointer (some ⟨b1, 0, none⟩), iV n7, uV, uV, uV, uV, uV, uV, uV, uV, uV, uV, uV, uV, uV, uV, uV, uV, uV, uV, uV, uV, uV, uV, uV, uV, uV, uV, uV, uV, uV, uV, uV, uV, uV, uV, uV, uV, uV, uV, uV, uV, uV, uV, uV, uV, uV, uV, uV, uV, uV, uV, uV, uV, uV, uV, uV, uV, uV, uV, uV, uV, uV, uV]) (by kernel_rfl) ?_
  intro B hret hnor hnp
  refine wp_seq_k (fun K8 hK9 => ?_)
  refine wp_region_lit ?_
  refine seqS1 (a' := ⟨#[.pointer (some ⟨b1, 0, none⟩), iV n7, uV, uV, iV 0, uV, uV, uV, uV, uV, uV, uV, uV, uV, uV, uV, uV, uV, uV, uV, uV, uV, uV, uV, uV, uV, uV, uV, uV, uV, uV, uV, uV, uV, uV, uV, uV, uV, uV, uV, uV, uV, uV, uV, uV, uV, uV, uV, uV, uV, uV, uV, uV, uV, uV, uV, uV, uV, uV, uV, uV, uV, uV, uV], []⟩) (by kernel_rfl) ?_
  refine wpList_nil ?_
  refine hK9 _ _ ?_
  refine wp_seq_k (fun K10 hK11 => ?_)
  refine wp_region_lit ?_
  refine seqL3 (by kernel_rfl) ?_
  refine seqK rfl (does_run (run_load rfl Try.underlying3 rfl (by kernel_rfl : _ = Value.pointer (some ⟨b1, 1, none⟩)) (HS.cell 1)) ?_)
  refine seqL3 (by kernel_rfl) ?_
  refine seqK rfl (does_store (n := 1) (vs := [.int .i64 (w64 (s3.vat + 1))]) (cs' := #[.slice A4 s3.L.length c5, .int .i64 (w64 (s3.vat + 1))]) rfl (by kernel_rfl) (by kernel_rfl : _ = Value.pointer (some ⟨b1, 1, none⟩)) (by kernel_rfl : _ = Value.int .i64 (w64 (s3.vat + 1))) rfl rfl (by intro u_ hu_; simp only [List.mem_cons, List.not_mem_nil, or_false] at hu_; subst hu_; rfl) HS (Nat.le_of_ble_eq_true rfl) (by kernel_rfl) ?_)
  intro W12 HS13
  refine wpList_nil ?_
  refine hK11 _ _ ?_
  refine wp_seq_k (fun K14 hK15 => ?_)
  refine wp_seq_k (fun K16 hK17 => ?_)
  refine wp_region_lit ?_
  refine seqL3 (by kernel_rfl) ?_
  refine seqK rfl (does_run (run_load rfl Try.underlying22 rfl (by kernel_rfl : _ = Value.pointer (some ⟨b1, 0, none⟩)) (HS13.cell 0)) ?_)
  refine seqS2 (a' := ⟨#[.pointer (some ⟨b1, 0, none⟩), iV n7, uV, uV, iV 0, uV, uV, .pointer (some ⟨b1, 0, none⟩), .pointer (some ⟨b1, 0, none⟩), .pointer (some ⟨b1, 1, none⟩), iV s3.vat, iV (w64 (s3.vat + 1)), .pointer (some ⟨b1, 0, none⟩), .pointer (some ⟨b1, 1, none⟩), .pointer (some ⟨b1, 0, none⟩), .pointer (some ⟨b1, 0, none⟩), .pointer (some ⟨b1, 0, none⟩), .slice A4 s3.L.length c5, iV (s3.L.length : Int), .bool ((s3.L.length : Int) == 0), uV, uV, uV, uV, uV, uV, uV, uV, uV, uV, uV, uV, uV, uV, uV, uV, uV, uV, uV, uV, uV, uV, uV, uV, uV, uV, uV, uV, uV, uV, uV, uV, uV, uV, uV, uV, uV, uV, uV, uV, uV, uV, uV, uV], []⟩) (by kernel_rfl) ?_
  refine wpList_nil ?_
  refine hK17 _ _ ?_
  have hq_ := ite_some h; clear h; rcases hq_ with ⟨c19, h⟩ | ⟨c19, h⟩
  · have c19 : (s3.L.length : Int) = 0 := c19
    refine wpRwI 19 (x := ((s3.L.length : Int) == 0)) (v := true) (by kernel_rfl) (beq_iff_eq.mpr c19) ?_
    refine condT (by kernel_rfl) ?_
    refine wp_seq_k (fun K20 hK21 => ?_)
    refine wp_region_lit ?_
    refine seqL3 (by kernel_rfl) ?_
    refine seqK rfl (does_run (run_load rfl Try.underlying3 rfl (by kernel_rfl : _ = Value.pointer (some ⟨b1, 1, none⟩)) (HS13.cell 1)) ?_)
    have hq_ := bind_some h; clear h; obtain ⟨vt22, hc23, h⟩ := hq_
    refine seqL2 (by kernel_rfl) ?_
    refine seqK rfl (does_call (f := 10) (args := #[.int .i64 (w64 ((w64 (s3.vat + 1)) * 7919)), .int .i64 n7]) (by kernel_rfl) (spymake_Below.calls k (w64 ((w64 (s3.vat + 1)) * 7919)) n7 HS13 vt22 hc23) ?_)
    rintro _ W26 ⟨f24, rfl, L25, HS27⟩
    refine ⟨_, rfl, ?_⟩
    refine seqS1 (a' := ⟨#[.pointer (some ⟨b1, 0, none⟩), iV n7, uV, uV, iV vt22, uV, uV, .pointer (some ⟨b1, 0, none⟩), .pointer (some ⟨b1, 0, none⟩), .pointer (some ⟨b1, 1, none⟩), iV s3.vat, iV (w64 (s3.vat + 1)), .pointer (some ⟨b1, 0, none⟩), .pointer (some ⟨b1, 1, none⟩), .pointer (some ⟨b1, 0, none⟩), .pointer (some ⟨b1, 0, none⟩), .pointer (some ⟨b1, 0, none⟩), .slice A4 s3.L.length c5, iV (s3.L.length : Int), .bool true, .pointer (some ⟨b1, 0, none⟩), .pointer (some ⟨b1, 0, none⟩), .pointer (some ⟨b1, 1, none⟩), iV (w64 (s3.vat + 1)), iV (w64 ((w64 (s3.vat + 1)) * 7919)), iV n7, iV vt22, uV, uV, uV, uV, uV, uV, uV, uV, uV, uV, uV, uV, uV, uV, uV, uV, uV, uV, uV, uV, uV, uV, uV, uV, uV, uV, uV, uV, uV, uV, uV, uV, uV, uV, uV, uV, uV], []⟩) (by kernel_rfl) ?_
    refine wpList_nil ?_
    refine hK21 _ _ ?_
    refine wp_ret ?_
    refine hret _ _ ?_
    refine ends_still (v := Value.int .i64 vt22) (by kernel_rfl) (by kernel_rfl) ?_
    injection h with h
    injection h with h0_ h
    subst h0_ h
    exact ⟨f24, rfl, L25, HS27⟩
  · have c19 : ¬ ((s3.L.length : Int) = 0) := c19
    refine wpRwI 19 (x := ((s3.L.length : Int) == 0)) (v := false) (by kernel_rfl) (beq_eq_false_iff_ne.mpr c19) ?_
    refine condF (by kernel_rfl) ?_
    refine wp_skip ?_
    refine hK15 _ _ ?_
    refine wp_seq_k (fun K28 hK29 => ?_)
    refine heldG (S := Sg t f ([(b1, .cells #[.slice A4 s3.L.length c5, .int .i64 (w64 (s3.vat + 1))] 25 (0, 0))] :: H) []) (n := 12) (by kernel_rfl) rfl HS13 ?_
    intro W30 HS31
    refine takeG [0, 1, 2] (n := 12) (fuel := 9) (l' := #[true, true, true, false, false, false, false, false, false, false, false, false]) (a' := ⟨#[.pointer (some ⟨b1, 0, none⟩), iV n7, uV, uV, iV 0, uV, uV, .pointer (some ⟨b1, 0, none⟩), .pointer (some ⟨b1, 0, none⟩), .pointer (some ⟨b1, 1, none⟩), iV s3.vat, iV (w64 (s3.vat + 1)), .pointer (some ⟨b1, 0, none⟩), .pointer (some ⟨b1, 1, none⟩), .pointer (some ⟨b1, 0, none⟩), .pointer (some ⟨b1, 0, none⟩), .pointer (some ⟨b1, 0, none⟩), .slice A4 s3.L.length c5, iV (s3.L.length : Int), .bool false, uV, uV, uV, uV, uV, uV, uV, .pointer (some ⟨b1, 0, none⟩), .pointer (some ⟨b1, 0, none⟩), .pointer (some ⟨b1, 1, none⟩), uV, uV, uV, uV, uV, uV, uV, uV, uV, uV, uV, uV, uV, uV, uV, uV, uV, uV, uV, uV, uV, uV, uV, uV, uV, uV, uV, uV, uV, uV, uV, uV, uV, uV], []⟩) rfl (by kernel_rfl) (by kernel_rfl) (by kernel_rfl) hnp (Sg.g0 (Sx.of [] (FM.le.refl _) HS31)) ?_
    refine takeGQ 3 [] rfl (by kernel_rfl) (by kernel_rfl) (by kernel_rfl) (by kernel_rfl) (by kernel_rfl) (by kernel_rfl) hnp (Sg.g0 (Sx.of [] (FM.le.refl _) HS31)) (fun w_ hw_ => by obtain ⟨g_, hl_, hS_⟩ := hw_.st; exact run_load rfl Try.underlying3 rfl (by kernel_rfl : _ = Value.pointer (some ⟨b1, 1, none⟩)) (hS_.cell 1)) ?_
    refine takeG [4, 5, 6, 7] (n := 8) (fuel := 4) (l' := #[true, true, true, true, true, true, true, true, false, false, false, false]) (a' := ⟨#[.pointer (some ⟨b1, 0, none⟩), iV n7, uV, uV, iV 0, uV, uV, .pointer (some ⟨b1, 0, none⟩), .pointer (some ⟨b1, 0, none⟩), .pointer (some ⟨b1, 1, none⟩), iV s3.vat, iV (w64 (s3.vat + 1)), .pointer (some ⟨b1, 0, none⟩), .pointer (some ⟨b1, 1, none⟩), .pointer (some ⟨b1, 0, none⟩), .pointer (some ⟨b1, 0, none⟩), .pointer (some ⟨b1, 0, none⟩), .slice A4 s3.L.length c5, iV (s3.L.length : Int), .bool false, uV, uV, uV, uV, uV, uV, uV, .pointer (some ⟨b1, 0, none⟩), .pointer (some ⟨b1, 0, none⟩), .pointer (some ⟨b1, 1, none⟩), iV (w64 (s3.vat + 1)), iV (w64 ((w64 (s3.vat + 1)) - 1)), .pointer (some ⟨b1, 0, none⟩), .pointer (some ⟨b1, 0, none⟩), .pointer (some ⟨b1, 0, none⟩), uV, uV, uV, uV, uV, uV, uV, uV, uV, uV, uV, uV, uV, uV, uV, uV, uV, uV, uV, uV, uV, uV, uV, uV, uV, uV, uV, uV, uV], []⟩) rfl (by kernel_rfl) (by kernel_rfl) (by kernel_rfl) hnp (Sg.g0 (Sx.of [] (FM.le.refl _) HS31)) ?_
    refine takeGQ 8 [] rfl (by kernel_rfl) (by kernel_rfl) (by kernel_rfl) (by kernel_rfl) (by kernel_rfl) (by kernel_rfl) hnp (Sg.g0 (Sx.of [] (FM.le.refl _) HS31)) (fun w_ hw_ => by obtain ⟨g_, hl_, hS_⟩ := hw_.st; exact run_load rfl Try.underlying22 rfl (by kernel_rfl : _ = Value.pointer (some ⟨b1, 0, none⟩)) (hS_.cell 0)) ?_
    have hq_ := guard_some h; clear h; obtain ⟨c32, h⟩ := hq_
    have c32 : ¬ ((s3.L.length : Int) = 0) := c32
    refine takeG [9] (n := 3) (fuel := 2) (l' := #[true, true, true, true, true, true, true, true, true, true, false, false]) (a' := ⟨#[.pointer (some ⟨b1, 0, none⟩), iV n7, uV, uV, iV 0, uV, uV, .pointer (some ⟨b1, 0, none⟩), .pointer (some ⟨b1, 0, none⟩), .pointer (some ⟨b1, 1, none⟩), iV s3.vat, iV (w64 (s3.vat + 1)), .pointer (some ⟨b1, 0, none⟩), .pointer (some ⟨b1, 1, none⟩), .pointer (some ⟨b1, 0, none⟩), .pointer (some ⟨b1, 0, none⟩), .pointer (some ⟨b1, 0, none⟩), .slice A4 s3.L.length c5, iV (s3.L.length : Int), .bool false, uV, uV, uV, uV, uV, uV, uV, .pointer (some ⟨b1, 0, none⟩), .pointer (some ⟨b1, 0, none⟩), .pointer (some ⟨b1, 1, none⟩), iV (w64 (s3.vat + 1)), iV (w64 ((w64 (s3.vat + 1)) - 1)), .pointer (some ⟨b1, 0, none⟩), .pointer (some ⟨b1, 0, none⟩), .pointer (some ⟨b1, 0, none⟩), .slice A4 s3.L.length c5, iV (s3.L.length : Int), uV, uV, uV, uV, uV, uV, uV, uV, uV, uV, uV, uV, uV, uV, uV, uV, uV, uV, uV, uV, uV, uV, uV, uV, uV, uV, uV], []⟩) rfl (by kernel_rfl) (by kernel_rfl) (by kernel_rfl) hnp (Sg.g0 (Sx.of [] (FM.le.refl _) HS31)) ?_
    refine takeGQ 10 [] rfl (by kernel_rfl) (by kernel_rfl) (by kernel_rfl) (by kernel_rfl) (by kernel_rfl) (by kernel_rfl) hnp (Sg.g0 (Sx.of [] (FM.le.refl _) HS31)) (fun w_ hw_ => by obtain ⟨g_, hl_, hS_⟩ := hw_.st; exact run_rem rfl (by kernel_rfl : _ = Value.int .i64 (w64 ((w64 (s3.vat + 1)) - 1))) (by kernel_rfl : _ = Value.int .i64 (s3.L.length : Int)) c32 w_) ?_
    refine takeG [11] (n := 1) (fuel := 0) (l' := #[true, true, true, true, true, true, true, true, true, true, true, true]) (a' := ⟨#[.pointer (some ⟨b1, 0, none⟩), iV n7, uV, uV, iV 0, iV (Int.tmod (w64 ((w64 (s3.vat + 1)) - 1)) (s3.L.length : Int)), uV, .pointer (some ⟨b1, 0, none⟩), .pointer (some ⟨b1, 0, none⟩), .pointer (some ⟨b1, 1, none⟩), iV s3.vat, iV (w64 (s3.vat + 1)), .pointer (some ⟨b1, 0, none⟩), .pointer (some ⟨b1, 1, none⟩), .pointer (some ⟨b1, 0, none⟩), .pointer (some ⟨b1, 0, none⟩), .pointer (some ⟨b1, 0, none⟩), .slice A4 s3.L.length c5, iV (s3.L.length : Int), .bool false, uV, uV, uV, uV, uV, uV, uV, .pointer (some ⟨b1, 0, none⟩), .pointer (some ⟨b1, 0, none⟩), .pointer (some ⟨b1, 1, none⟩), iV (w64 (s3.vat + 1)), iV (w64 ((w64 (s3.vat + 1)) - 1)), .pointer (some ⟨b1, 0, none⟩), .pointer (some ⟨b1, 0, none⟩), .pointer (some ⟨b1, 0, none⟩), .slice A4 s3.L.length c5, iV (s3.L.length : Int), iV (Int.tmod (w64 ((w64 (s3.vat + 1)) - 1)) (s3.L.length : Int)), uV, uV, uV, uV, uV, uV, uV, uV, uV, uV, uV, uV, uV, uV, uV, uV, uV, uV, uV, uV, uV, uV, uV, uV, uV, uV], []⟩) rfl (by kernel_rfl) (by kernel_rfl) (by kernel_rfl) hnp (Sg.g0 (Sx.of [] (FM.le.refl _) HS31)) ?_
    refine doneG (by kernel_rfl) ?_ _
    refine hK29 _ _ ?_
    refine wp_seq_k (fun K33 hK34 => ?_)
    refine heldG (S := Sg t f ([(b1, .cells #[.slice A4 s3.L.length c5, .int .i64 (w64 (s3.vat + 1))] 25 (0, 0))] :: H) []) (n := 12) (by kernel_rfl) rfl HS31 ?_
    intro W35 HS36
    refine takeG [0, 1, 2] (n := 12) (fuel := 9) (l' := #[true, true, true, false, false, false, false, false, false, false, false, false]) (a' := ⟨#[.pointer (some ⟨b1, 0, none⟩), iV n7, uV, uV, iV 0, iV (Int.tmod (w64 ((w64 (s3.vat + 1)) - 1)) (s3.L.length : Int)), uV, .pointer (some ⟨b1, 0, none⟩), .pointer (some ⟨b1, 0, none⟩), .pointer (some ⟨b1, 1, none⟩), iV s3.vat, iV (w64 (s3.vat + 1)), .pointer (some ⟨b1, 0, none⟩), .pointer (some ⟨b1, 1, none⟩), .pointer (some ⟨b1, 0, none⟩), .pointer (some ⟨b1, 0, none⟩), .pointer (some ⟨b1, 0, none⟩), .slice A4 s3.L.length c5, iV (s3.L.length : Int), .bool false, uV, uV, uV, uV, uV, uV, uV, .pointer (some ⟨b1, 0, none⟩), .pointer (some ⟨b1, 0, none⟩), .pointer (some ⟨b1, 1, none⟩), iV (w64 (s3.vat + 1)), iV (w64 ((w64 (s3.vat + 1)) - 1)), .pointer (some ⟨b1, 0, none⟩), .pointer (some ⟨b1, 0, none⟩), .pointer (some ⟨b1, 0, none⟩), .slice A4 s3.L.length c5, iV (s3.L.length : Int), iV (Int.tmod (w64 ((w64 (s3.vat + 1)) - 1)) (s3.L.length : Int)), .pointer (some ⟨b1, 0, none⟩), .pointer (some ⟨b1, 0, none⟩), .pointer (some ⟨b1, 1, none⟩), uV, uV, uV, uV, uV, uV, uV, uV, uV, uV, uV, uV, uV, uV, uV, uV, uV, uV, uV, uV, uV, uV, uV], []⟩) rfl (by kernel_rfl) (by kernel_rfl) (by kernel_rfl) hnp (Sg.g0 (Sx.of [] (FM.le.refl _) HS36)) ?_
    refine takeGQ 3 [] rfl (by kernel_rfl) (by kernel_rfl) (by kernel_rfl) (by kernel_rfl) (by kernel_rfl) (by kernel_rfl) hnp (Sg.g0 (Sx.of [] (FM.le.refl _) HS36)) (fun w_ hw_ => by obtain ⟨g_, hl_, hS_⟩ := hw_.st; exact run_load rfl Try.underlying3 rfl (by kernel_rfl : _ = Value.pointer (some ⟨b1, 1, none⟩)) (hS_.cell 1)) ?_
    refine takeG [4, 5, 6, 7] (n := 8) (fuel := 4) (l' := #[true, true, true, true, true, true, true, true, false, false, false, false]) (a' := ⟨#[.pointer (some ⟨b1, 0, none⟩), iV n7, uV, uV, iV 0, iV (Int.tmod (w64 ((w64 (s3.vat + 1)) - 1)) (s3.L.length : Int)), uV, .pointer (some ⟨b1, 0, none⟩), .pointer (some ⟨b1, 0, none⟩), .pointer (some ⟨b1, 1, none⟩), iV s3.vat, iV (w64 (s3.vat + 1)), .pointer (some ⟨b1, 0, none⟩), .pointer (some ⟨b1, 1, none⟩), .pointer (some ⟨b1, 0, none⟩), .pointer (some ⟨b1, 0, none⟩), .pointer (some ⟨b1, 0, none⟩), .slice A4 s3.L.length c5, iV (s3.L.length : Int), .bool false, uV, uV, uV, uV, uV, uV, uV, .pointer (some ⟨b1, 0, none⟩), .pointer (some ⟨b1, 0, none⟩), .pointer (some ⟨b1, 1, none⟩), iV (w64 (s3.vat + 1)), iV (w64 ((w64 (s3.vat + 1)) - 1)), .pointer (some ⟨b1, 0, none⟩), .pointer (some ⟨b1, 0, none⟩), .pointer (some ⟨b1, 0, none⟩), .slice A4 s3.L.length c5, iV (s3.L.length : Int), iV (Int.tmod (w64 ((w64 (s3.vat + 1)) - 1)) (s3.L.length : Int)), .pointer (some ⟨b1, 0, none⟩), .pointer (some ⟨b1, 0, none⟩), .pointer (some ⟨b1, 1, none⟩), iV (w64 (s3.vat + 1)), iV (w64 ((w64 (s3.vat + 1)) - 1)), .pointer (some ⟨b1, 0, none⟩), .pointer (some ⟨b1, 0, none⟩), .pointer (some ⟨b1, 0, none⟩), uV, uV, uV, uV, uV, uV, uV, uV, uV, uV, uV, uV, uV, uV, uV, uV, uV, uV], []⟩) rfl (by kernel_rfl) (by kernel_rfl) (by kernel_rfl) hnp (Sg.g0 (Sx.of [] (FM.le.refl _) HS36)) ?_
    refine takeGQ 8 [] rfl (by kernel_rfl) (by kernel_rfl) (by kernel_rfl) (by kernel_rfl) (by kernel_rfl) (by kernel_rfl) hnp (Sg.g0 (Sx.of [] (FM.le.refl _) HS36)) (fun w_ hw_ => by obtain ⟨g_, hl_, hS_⟩ := hw_.st; exact run_load rfl Try.underlying22 rfl (by kernel_rfl : _ = Value.pointer (some ⟨b1, 0, none⟩)) (hS_.cell 0)) ?_
    refine takeG [9] (n := 3) (fuel := 2) (l' := #[true, true, true, true, true, true, true, true, true, true, false, false]) (a' := ⟨#[.pointer (some ⟨b1, 0, none⟩), iV n7, uV, uV, iV 0, iV (Int.tmod (w64 ((w64 (s3.vat + 1)) - 1)) (s3.L.length : Int)), uV, .pointer (some ⟨b1, 0, none⟩), .pointer (some ⟨b1, 0, none⟩), .pointer (some ⟨b1, 1, none⟩), iV s3.vat, iV (w64 (s3.vat + 1)), .pointer (some ⟨b1, 0, none⟩), .pointer (some ⟨b1, 1, none⟩), .pointer (some ⟨b1, 0, none⟩), .pointer (some ⟨b1, 0, none⟩), .pointer (some ⟨b1, 0, none⟩), .slice A4 s3.L.length c5, iV (s3.L.length : Int), .bool false, uV, uV, uV, uV, uV, uV, uV, .pointer (some ⟨b1, 0, none⟩), .pointer (some ⟨b1, 0, none⟩), .pointer (some ⟨b1, 1, none⟩), iV (w64 (s3.vat + 1)), iV (w64 ((w64 (s3.vat + 1)) - 1)), .pointer (some ⟨b1, 0, none⟩), .pointer (some ⟨b1, 0, none⟩), .pointer (some ⟨b1, 0, none⟩), .slice A4 s3.L.length c5, iV (s3.L.length : Int), iV (Int.tmod (w64 ((w64 (s3.vat + 1)) - 1)) (s3.L.length : Int)), .pointer (some ⟨b1, 0, none⟩), .pointer (some ⟨b1, 0, none⟩), .pointer (some ⟨b1, 1, none⟩), iV (w64 (s3.vat + 1)), iV (w64 ((w64 (s3.vat + 1)) - 1)), .pointer (some ⟨b1, 0, none⟩), .pointer (some ⟨b1, 0, none⟩), .pointer (some ⟨b1, 0, none⟩), .slice A4 s3.L.length c5, iV (s3.L.length : Int), uV, uV, uV, uV, uV, uV, uV, uV, uV, uV, uV, uV, uV, uV, uV, uV], []⟩) rfl (by kernel_rfl) (by kernel_rfl) (by kernel_rfl) hnp (Sg.g0 (Sx.of [] (FM.le.refl _) HS36)) ?_
    refine takeGQ 10 [] rfl (by kernel_rfl) (by kernel_rfl) (by kernel_rfl) (by kernel_rfl) (by kernel_rfl) (by kernel_rfl) hnp (Sg.g0 (Sx.of [] (FM.le.refl _) HS36)) (fun w_ hw_ => by obtain ⟨g_, hl_, hS_⟩ := hw_.st; exact run_div rfl (by kernel_rfl : _ = Value.int .i64 (w64 ((w64 (s3.vat + 1)) - 1))) (by kernel_rfl : _ = Value.int .i64 (s3.L.length : Int)) c32 w_) ?_
    refine takeG [11] (n := 1) (fuel := 0) (l' := #[true, true, true, true, true, true, true, true, true, true, true, true]) (a' := ⟨#[.pointer (some ⟨b1, 0, none⟩), iV n7, uV, uV, iV 0, iV (Int.tmod (w64 ((w64 (s3.vat + 1)) - 1)) (s3.L.length : Int)), iV (w64 (Int.tdiv (w64 ((w64 (s3.vat + 1)) - 1)) (s3.L.length : Int))), .pointer (some ⟨b1, 0, none⟩), .pointer (some ⟨b1, 0, none⟩), .pointer (some ⟨b1, 1, none⟩), iV s3.vat, iV (w64 (s3.vat + 1)), .pointer (some ⟨b1, 0, none⟩), .pointer (some ⟨b1, 1, none⟩), .pointer (some ⟨b1, 0, none⟩), .pointer (some ⟨b1, 0, none⟩), .pointer (some ⟨b1, 0, none⟩), .slice A4 s3.L.length c5, iV (s3.L.length : Int), .bool false, uV, uV, uV, uV, uV, uV, uV, .pointer (some ⟨b1, 0, none⟩), .pointer (some ⟨b1, 0, none⟩), .pointer (some ⟨b1, 1, none⟩), iV (w64 (s3.vat + 1)), iV (w64 ((w64 (s3.vat + 1)) - 1)), .pointer (some ⟨b1, 0, none⟩), .pointer (some ⟨b1, 0, none⟩), .pointer (some ⟨b1, 0, none⟩), .slice A4 s3.L.length c5, iV (s3.L.length : Int), iV (Int.tmod (w64 ((w64 (s3.vat + 1)) - 1)) (s3.L.length : Int)), .pointer (some ⟨b1, 0, none⟩), .pointer (some ⟨b1, 0, none⟩), .pointer (some ⟨b1, 1, none⟩), iV (w64 (s3.vat + 1)), iV (w64 ((w64 (s3.vat + 1)) - 1)), .pointer (some ⟨b1, 0, none⟩), .pointer (some ⟨b1, 0, none⟩), .pointer (some ⟨b1, 0, none⟩), .slice A4 s3.L.length c5, iV (s3.L.length : Int), iV (w64 (Int.tdiv (w64 ((w64 (s3.vat + 1)) - 1)) (s3.L.length : Int))), uV, uV, uV, uV, uV, uV, uV, uV, uV, uV, uV, uV, uV, uV, uV], []⟩) rfl (by kernel_rfl) (by kernel_rfl) (by kernel_rfl) hnp (Sg.g0 (Sx.of [] (FM.le.refl _) HS36)) ?_
    refine doneG (by kernel_rfl) ?_ _
    refine hK34 _ _ ?_
    refine wp_seq_k (fun K37 hK38 => ?_)
    refine wp_region_lit ?_
    refine seqL3 (by kernel_rfl) ?_
    refine seqK rfl (does_run (run_load rfl Try.underlying22 rfl (by kernel_rfl : _ = Value.pointer (some ⟨b1, 0, none⟩)) (HS36.cell 0)) ?_)
    have hq_ := guard_some h; clear h; obtain ⟨c39, h⟩ := hq_
    have c39 : 0 ≤ (Int.tmod (w64 ((w64 (s3.vat + 1)) - 1)) (s3.L.length : Int)) := c39
    have hq_ := guard_some h; clear h; obtain ⟨c40, h⟩ := hq_
    have c40 : (Int.tmod (w64 ((w64 (s3.vat + 1)) - 1)) (s3.L.length : Int)) < (s3.L.length : Int) := c40
    obtain ⟨b44, of45, cs41, hA46, hr42, hc43⟩ := HR6.at (i := Int.tmod (w64 ((w64 (s3.vat + 1)) - 1)) (s3.L.length : Int)) c39 c40
    obtain rfl := hr42
    refine seqL1 (by kernel_rfl) ?_
    refine seqK rfl (does_run (run_indexE hA46 (sz := 1) rfl Try.underlying22 (by kernel_rfl) (by kernel_rfl : _ = Value.slice A4 s3.L.length c5) (by kernel_rfl : _ = Value.int .i64 (Int.tmod (w64 ((w64 (s3.vat + 1)) - 1)) (s3.L.length : Int))) c39 c40 W35) ?_)
    refine seqK rfl (does_run (run_load rfl Try.underlying3 rfl (by kernel_rfl : _ = Value.pointer (some ⟨b44, of45 + (Int.tmod (w64 ((w64 (s3.vat + 1)) - 1)) (s3.L.length : Int) : Int).toNat * 1, none⟩)) ((hc43 (FM.le.refl _) HS36) 0 (by decide))) ?_)
    have hq_ := bind_some h; clear h; obtain ⟨vt47, hc48, h⟩ := hq_
    refine seqK rfl (does_call (f := 10) (args := #[.int .i64 (rd s3.L (Int.tmod (w64 ((w64 (s3.vat + 1)) - 1)) (s3.L.length : Int))), .int .i64 1073741824]) (by kernel_rfl) (spymake_Below.calls k (rd s3.L (Int.tmod (w64 ((w64 (s3.vat + 1)) - 1)) (s3.L.length : Int))) 1073741824 HS36 vt47 hc48) ?_)
    rintro _ W51 ⟨f49, rfl, L50, HS52⟩
    refine ⟨_, rfl, ?_⟩
    have hq_ := bind_some h; clear h; obtain ⟨vt53, hc54, h⟩ := hq_
    refine seqL6 (by kernel_rfl) ?_
    refine seqK rfl (does_call (f := 10) (args := #[.int .i64 (w64 (vt47 + (w64 ((w64 (Int.tdiv (w64 ((w64 (s3.vat + 1)) - 1)) (s3.L.length : Int))) * (w64 (7919 + (Int.tmod (w64 ((w64 (s3.vat + 1)) - 1)) (s3.L.length : Int)))))))), .int .i64 n7]) (by kernel_rfl) (spymake_Below.calls k (w64 (vt47 + (w64 ((w64 (Int.tdiv (w64 ((w64 (s3.vat + 1)) - 1)) (s3.L.length : Int))) * (w64 (7919 + (Int.tmod (w64 ((w64 (s3.vat + 1)) - 1)) (s3.L.length : Int)))))))) n7 HS52 vt53 hc54) ?_)
    rintro _ W57 ⟨f55, rfl, L56, HS58⟩
    refine ⟨_, rfl, ?_⟩
    refine seqS1 (a' := ⟨#[.pointer (some ⟨b1, 0, none⟩), iV n7, uV, uV, iV vt53, iV (Int.tmod (w64 ((w64 (s3.vat + 1)) - 1)) (s3.L.length : Int)), iV (w64 (Int.tdiv (w64 ((w64 (s3.vat + 1)) - 1)) (s3.L.length : Int))), .pointer (some ⟨b1, 0, none⟩), .pointer (some ⟨b1, 0, none⟩), .pointer (some ⟨b1, 1, none⟩), iV s3.vat, iV (w64 (s3.vat + 1)), .pointer (some ⟨b1, 0, none⟩), .pointer (some ⟨b1, 1, none⟩), .pointer (some ⟨b1, 0, none⟩), .pointer (some ⟨b1, 0, none⟩), .pointer (some ⟨b1, 0, none⟩), .slice A4 s3.L.length c5, iV (s3.L.length : Int), .bool false, uV, uV, uV, uV, uV, uV, uV, .pointer (some ⟨b1, 0, none⟩), .pointer (some ⟨b1, 0, none⟩), .pointer (some ⟨b1, 1, none⟩), iV (w64 (s3.vat + 1)), iV (w64 ((w64 (s3.vat + 1)) - 1)), .pointer (some ⟨b1, 0, none⟩), .pointer (some ⟨b1, 0, none⟩), .pointer (some ⟨b1, 0, none⟩), .slice A4 s3.L.length c5, iV (s3.L.length : Int), iV (Int.tmod (w64 ((w64 (s3.vat + 1)) - 1)) (s3.L.length : Int)), .pointer (some ⟨b1, 0, none⟩), .pointer (some ⟨b1, 0, none⟩), .pointer (some ⟨b1, 1, none⟩), iV (w64 (s3.vat + 1)), iV (w64 ((w64 (s3.vat + 1)) - 1)), .pointer (some ⟨b1, 0, none⟩), .pointer (some ⟨b1, 0, none⟩), .pointer (some ⟨b1, 0, none⟩), .slice A4 s3.L.length c5, iV (s3.L.length : Int), iV (w64 (Int.tdiv (w64 ((w64 (s3.vat + 1)) - 1)) (s3.L.length : Int))), .pointer (some ⟨b1, 0, none⟩), .pointer (some ⟨b1, 0, none⟩), .pointer (some ⟨b1, 0, none⟩), .slice A4 s3.L.length c5, iV (Int.tmod (w64 ((w64 (s3.vat + 1)) - 1)) (s3.L.length : Int)), .pointer (some ⟨b44, of45 + (Int.tmod (w64 ((w64 (s3.vat + 1)) - 1)) (s3.L.length : Int) : Int).toNat * 1, none⟩), iV (rd s3.L (Int.tmod (w64 ((w64 (s3.vat + 1)) - 1)) (s3.L.length : Int))), iV vt47, iV (w64 (Int.tdiv (w64 ((w64 (s3.vat + 1)) - 1)) (s3.L.length : Int))), iV (Int.tmod (w64 ((w64 (s3.vat + 1)) - 1)) (s3.L.length : Int)), iV (w64 (7919 + (Int.tmod (w64 ((w64 (s3.vat + 1)) - 1)) (s3.L.length : Int)))), iV (w64 ((w64 (Int.tdiv (w64 ((w64 (s3.vat + 1)) - 1)) (s3.L.length : Int))) * (w64 (7919 + (Int.tmod (w64 ((w64 (s3.vat + 1)) - 1)) (s3.L.length : Int)))))), iV (w64 (vt47 + (w64 ((w64 (Int.tdiv (w64 ((w64 (s3.vat + 1)) - 1)) (s3.L.length : Int))) * (w64 (7919 + (Int.tmod (w64 ((w64 (s3.vat + 1)) - 1)) (s3.L.length : Int)))))))), iV n7, iV vt53], []⟩) (by kernel_rfl) ?_
    refine wpList_nil ?_
    refine hK38 _ _ ?_
    refine wp_ret ?_
    refine hret _ _ ?_
    refine ends_still (v := Value.int .i64 vt53) (by kernel_rfl) (by kernel_rfl) ?_
    injection h with h
    injection h with h0_ h
    subst h0_ h
    exact ⟨f55, rfl, (L50.trans L56), HS58⟩

set_option maxRecDepth 100000 in
set_option maxHeartbeats 4000000 in
theorem spymake_Stream_Range.calls (k : Nat) (b1 : Nat) (A4 : Option Addr) (c5 : Nat) (s3 : S_Stream) (low7 : Int) (high8 : Int) {t w : World} {f : FM} {H : List Seg} (HS : St t w f ([(b1, .cells #[.slice A4 s3.L.length c5, .int .i64 s3.vat] 25 (0, 0))] :: H)) (HR6 : SlR (tInt .i64) f A4 c5 s3.L) (r1 : Int) (r2 : Int) (h : spymake_Stream_Range k s3 low7 high8 = some (r1, r2)) :
    Calls Try.prog 25 #[.pointer (some ⟨b1, 0, none⟩), .int .i64 low7, .int .i64 high8] w (fun e w' => ∃ (g : FM), e = .returned (Value.int .i64 r1) ∧ FM.le f g ∧ St t w' g ([(b1, .cells #[.slice A4 s3.L.length c5, .int .i64 r2] 25 (0, 0))] :: H)) := by
  unfold spymake_Stream_Range at h
  refine enter Try.func25 rfl (tm := #[.pointer (some ⟨b1, 0, none⟩), iV low7, iV high8, uV, uV, uV, uV, uV, uV, uV, uV, uV, uV, uV, uV, uV, uV, uV, uV]) (by kernel_rfl) ?_
  intro B hret hnor hnp
  refine wp_seq_k (fun K9 hK10 => ?_)
  refine wp_region_lit ?_
  refine seqS1 (a' := ⟨#[.pointer (some ⟨b1, 0, none⟩), iV low7, iV high8, uV, uV, uV, iV 0, uV, uV, uV, uV, uV, uV, uV, uV, uV, uV, uV, uV], []⟩) (by kernel_rfl) ?_
  refine wpList_nil ?_
  refine hK10 _ _ ?_
  refine wp_seq_k (fun K11 hK12 => ?_)
  refine wp_seq_k (fun K13 hK14 => ?_)
  refine wp_region_lit ?_
  refine seqS3 (a' := ⟨#[.pointer (some ⟨b1, 0, none⟩), iV low7, iV high8, uV, uV, uV, iV 0, iV high8, iV low7, .bool (decide (high8 < low7)), uV, uV, uV, uV, uV, uV, uV, uV, uV], []⟩) (by kernel_rfl) ?_
  refine wpList_nil ?_
  refine hK14 _ _ ?_
  have hq_ := ite_some h; clear h; rcases hq_ with ⟨c16, h⟩ | ⟨c16, h⟩
  · have c16 : high8 < low7 := c16
    refine wpRwI 9 (x := (decide (high8 < low7))) (v := true) (by kernel_rfl) (decide_eq_true c16) ?_
    refine condT (by kernel_rfl) ?_
    refine wp_seq_k (fun K17 hK18 => ?_)
    refine wp_region_lit ?_
    refine seqS2 (a' := ⟨#[.pointer (some ⟨b1, 0, none⟩), iV low7, iV high8, uV, uV, uV, iV low7, iV high8, iV low7, .bool true, iV low7, uV, uV, uV, uV, uV, uV, uV, uV], []⟩) (by kernel_rfl) ?_
    refine wpList_nil ?_
    refine hK18 _ _ ?_
    refine wp_ret ?_
    refine hret _ _ ?_
    refine ends_still (v := Value.int .i64 low7) (by kernel_rfl) (by kernel_rfl) ?_
    injection h with h
    injection h with h0_ h
    subst h0_ h
    exact ⟨f, rfl, FM.le.refl _, HS⟩
  · have c16 : ¬ (high8 < low7) := c16
    refine wpRwI 9 (x := (decide (high8 < low7))) (v := false) (by kernel_rfl) (decide_eq_false c16) ?_
    refine condF (by kernel_rfl) ?_
    refine wp_skip ?_
    refine hK12 _ _ ?_
    refine wp_seq_k (fun K19 hK20 => ?_)
    refine wp_region_lit ?_
    have hq_ := bind_some h; clear h; obtain ⟨⟨vt21, vt22⟩, hc23, h⟩ := hq_
    refine seqL6 (by kernel_rfl) ?_
    refine seqK rfl (does_call (f := 12) (args := #[.pointer (some ⟨b1, 0, none⟩), .int .i64 (w64 ((w64 (high8 - low7)) + 1))]) (by kernel_rfl) (spymake_Stream_Next.calls k b1 A4 c5 s3 (w64 ((w64 (high8 - low7)) + 1)) HS HR6 vt21 vt22 hc23) ?_)
    rintro _ W26 ⟨f24, rfl, L25, HS27⟩
    refine ⟨_, rfl, ?_⟩
    refine seqS2 (a' := ⟨#[.pointer (some ⟨b1, 0, none⟩), iV low7, iV high8, uV, uV, uV, iV (w64 (low7 + vt21)), iV high8, iV low7, .bool false, uV, iV low7, .pointer (some ⟨b1, 0, none⟩), iV high8, iV low7, iV (w64 (high8 - low7)), iV (w64 ((w64 (high8 - low7)) + 1)), iV vt21, iV (w64 (low7 + vt21))], []⟩) (by kernel_rfl) ?_
    refine wpList_nil ?_
    refine hK20 _ _ ?_
    refine wp_ret ?_
    refine hret _ _ ?_
    refine ends_still (v := Value.int .i64 (w64 (low7 + vt21))) (by kernel_rfl) (by kernel_rfl) ?_
    injection h with h
    injection h with h0_ h
    subst h0_ h
    exact ⟨f24, rfl, L25, HS27⟩

set_option maxRecDepth 100000 in
set_option maxHeartbeats 4000000 in
theorem spymake_Stream_Field.calls (k : Nat) (b1 : Nat) (A4 : Option Addr) (c5 : Nat) (s3 : S_Stream) (vw7 : Int) (vh8 : Int) {t w : World} {f : FM} {H : List Seg} (HS : St t w f ([(b1, .cells #[.slice A4 s3.L.length c5, .int .i64 s3.vat] 25 (0, 0))] :: H)) (HR6 : SlR (tInt .i64) f A4 c5 s3.L) (r1 : S_Cells) (r2 : Int) (h : spymake_Stream_Field k s3 vw7 vh8 = some (r1, r2)) :
    Calls Try.prog 35 #[.pointer (some ⟨b1, 0, none⟩), .int .i64 vw7, .int .i64 vh8] w (fun e w' => ∃ (g : FM) (A366 : Option Addr) (c367 : Nat) (s368 : Seg), e = .returned (Value.agg #[.int .i64 r1.W, .int .i64 r1.H, .slice A366 r1.At.length c367]) ∧ FM.le f g ∧ St t w' g (s368 :: [(b1, .cells #[.slice A4 s3.L.length c5, .int .i64 r2] 25 (0, 0))] :: H) ∧ Own ty_Bound 44 g A366 c367 s368 r1.At) := by
  unfold spymake_Stream_Field at h
  refine enter Try.func35 rfl (tm := #[.pointer (some ⟨b1, 0, none⟩), iV vw7, iV vh8, uV, uV, uV, uV, uV, uV, uV, uV, uV, uV, uV, uV, uV, uV, uV, uV, uV, uV, uV, uV, uV, uV, uV, uV, uV, uV, uV, uV, uV, uV, uV, uV, uV, uV, uV, uV, uV, uV, uV, uV, uV, uV, uV, uV, uV, uV, uV, uV, uV, uV, uV, uV, uV, uV]) (by kernel_rfl) ?_
  intro B hret hnor hnp
  refine wp_seq_k (fun K9 hK10 => ?_)
  refine wp_region_lit ?_
  refine seqK rfl (does_alloc (z := Value.agg #[.int .i64 0, .int .i64 0, .slice none 0 0]) (cs := #[.int .i64 0, .int .i64 0, .slice none 0 0]) rfl (by kernel_rfl) rfl HS ?_)
  intro b11 W12 HS13
  refine wpList_nil ?_
  refine hK10 _ _ ?_
  refine wp_seq_k (fun K15 hK16 => ?_)
  refine wp_region_lit ?_
  refine seqL3 (by kernel_rfl) ?_
  refine seqK rfl (does_alloc (z := Value.agg #[.int .i64 0, .int .i64 0, .slice none 0 0]) (cs := #[.int .i64 0, .int .i64 0, .slice none 0 0]) rfl (by kernel_rfl) rfl HS13 ?_)
  intro b17 W18 HS19
  refine seqK rfl (does_store (n := 3) (vs := [.int .i64 vw7, .int .i64 vh8, .slice none 0 0]) (cs' := #[.int .i64 vw7, .int .i64 vh8, .slice none 0 0]) rfl (by kernel_rfl) (by kernel_rfl : _ = Value.pointer (some ⟨b17, 0, none⟩)) (by kernel_rfl : _ = Value.agg #[.int .i64 vw7, .int .i64 vh8, .slice none 0 0]) rfl rfl (by intro u_ hu_; simp only [List.mem_cons, List.not_mem_nil, or_false] at hu_; rcases hu_ with rfl | rfl | rfl <;> rfl) HS19 (Nat.le_of_ble_eq_true rfl) (by kernel_rfl) ?_)
  intro W21 HS22
  refine wpList_nil ?_
  refine hK16 _ _ ?_
  refine wp_seq_k (fun K23 hK24 => ?_)
  refine wp_region_lit ?_
  have HS25 := HS22.u2
  have hq_ := bind_some h; clear h; obtain ⟨⟨vt26, vt27⟩, hc28, h⟩ := hq_
  refine seqL1 (by kernel_rfl) ?_
  refine seqK rfl (does_call (f := 12) (args := #[.pointer (some ⟨b1, 0, none⟩), .int .i64 200]) (by kernel_rfl) (spymake_Stream_Next.calls k b1 A4 c5 s3 200 HS25 HR6 vt26 vt27 hc28) ?_)
  rintro _ W31 ⟨f29, rfl, L30, HS32⟩
  refine ⟨_, rfl, ?_⟩
  have hq_ := bind_some h; clear h; obtain ⟨⟨vt33, vt34⟩, hc35, h⟩ := hq_
  refine seqL1 (by kernel_rfl) ?_
  refine seqK rfl (does_call (f := 25) (args := #[.pointer (some ⟨b1, 0, none⟩), .int .i64 0, .int .i64 30]) (by kernel_rfl) (spymake_Stream_Range.calls k b1 A4 c5 (⟨s3.L, vt27⟩ : S_Stream) 0 30 HS32 (HR6.mono L30) vt33 vt34 hc35) ?_)
  rintro _ W38 ⟨f36, rfl, L37, HS39⟩
  refine ⟨_, rfl, ?_⟩
  refine seqS2 (a' := ⟨#[.pointer (some ⟨b1, 0, none⟩), iV vw7, iV vh8, uV, uV, uV, .pointer (some ⟨b11, 0, none⟩), .pointer (some ⟨b17, 0, none⟩), iV vt26, iV vt33, uV, uV, iV vw7, iV vh8, .agg #[iV vw7, iV vh8, .slice none 0 0], .pointer (some ⟨b1, 0, none⟩), iV vt26, .pointer (some ⟨b1, 0, none⟩), iV vt33, uV, uV, uV, uV, uV, uV, uV, uV, uV, uV, uV, uV, uV, uV, uV, uV, uV, uV, uV, uV, uV, uV, uV, uV, uV, uV, uV, uV, uV, uV, uV, uV, uV, uV, uV, uV, uV, uV], []⟩) (by kernel_rfl) ?_
  refine wpList_nil ?_
  refine hK24 _ _ ?_
  refine wp_seq_k (fun K40 hK41 => ?_)
  refine wp_seq_k (fun K42 hK43 => ?_)
  refine wp_region_lit ?_
  refine seqS4 (a' := ⟨#[.pointer (some ⟨b1, 0, none⟩), iV vw7, iV vh8, uV, uV, uV, .pointer (some ⟨b11, 0, none⟩), .pointer (some ⟨b17, 0, none⟩), iV vt26, iV vt33, uV, uV, iV vw7, iV vh8, .agg #[iV vw7, iV vh8, .slice none 0 0], .pointer (some ⟨b1, 0, none⟩), iV vt26, .pointer (some ⟨b1, 0, none⟩), iV vt33, iV vw7, iV vh8, iV (w64 (vw7 * vh8)), iV 0, uV, uV, uV, uV, uV, uV, uV, uV, uV, uV, uV, uV, uV, uV, uV, uV, uV, uV, uV, uV, uV, uV, uV, uV, uV, uV, uV, uV, uV, uV, uV, uV, uV, uV], []⟩) (by kernel_rfl) ?_
  refine wpList_nil ?_
  refine hK43 _ _ ?_
  refine blockK (fun B44 hx45 hn46 hr47 ho48 hp49 => ?_)
  have hq_ := bind_some h; clear h; obtain ⟨o186, hv338, h⟩ := hq_
  have J339 : ∀ (f326 : FM) (A333 : Option Addr) (c334 : Nat) (s335 : Seg) (x331 : Int) (x332 : List S_Bound) (j330 : Nat → Value) (W328 : World) (a_ : Act), FM.le f36 f326 → some ((x331, x332)) = some o186 → St t W328 f326 (s335 :: [(b1, .cells #[.slice A4 s3.L.length c5, .int .i64 x331] 25 (0, 0))] :: [(b17, .cells #[.int .i64 vw7, .int .i64 vh8, .slice A333 x332.length c334] 34 (0, 0))] :: [(b11, .cells #[.int .i64 0, .int .i64 0, .slice none 0 0] 34 (0, 0))] :: H) → Own ty_Bound 44 f326 A333 c334 s335 x332 → a_ = ⟨#[.pointer (some ⟨b1, 0, none⟩), iV vw7, iV vh8, uV, uV, uV, .pointer (some ⟨b11, 0, none⟩), .pointer (some ⟨b17, 0, none⟩), iV vt26, iV vt33, (j330 0), (j330 1), iV vw7, iV vh8, .agg #[iV vw7, iV vh8, .slice none 0 0], .pointer (some ⟨b1, 0, none⟩), iV vt26, .pointer (some ⟨b1, 0, none⟩), iV vt33, iV vw7, iV vh8, iV (w64 (vw7 * vh8)), (j330 2), (j330 3), (j330 4), (j330 5), (j330 6), (j330 7), (j330 8), (j330 9), (j330 10), (j330 11), (j330 12), (j330 13), (j330 14), (j330 15), (j330 16), (j330 17), (j330 18), (j330 19), (j330 20), (j330 21), (j330 22), (j330 23), (j330 24), (j330 25), (j330 26), (j330 27), (j330 28), (j330 29), (j330 30), (j330 31), (j330 32), (j330 33), (j330 34), (j330 35), uV], []⟩ → K40 a_ W328 := by
    intro f326 A333 c334 s335 x331 x332 j330 W328 a_ L327 hj340 HS329 HO336 hfr_; subst hfr_
    injection hj340 with hj340; subst hj340; try dsimp only at h
    refine hK41 _ _ ?_
    refine wp_seq_k (fun K355 hK356 => ?_)
    refine wp_region_lit ?_
    refine seqK rfl (does_run (run_loadN (n := 3) rfl Try.underlying34 rfl (by kernel_rfl) (by kernel_rfl : _ = Value.pointer (some ⟨b17, 0, none⟩)) (cs := [.int .i64 vw7, .int .i64 vh8, .slice A333 x332.length c334]) rfl (HS329.u2.cells 0 3 _ rfl)) ?_)
    have HS357 := HS329.u3
    refine seqK rfl (does_store (n := 3) (vs := [.int .i64 vw7, .int .i64 vh8, .slice A333 x332.length c334]) (cs' := #[.int .i64 vw7, .int .i64 vh8, .slice A333 x332.length c334]) rfl (by kernel_rfl) (by kernel_rfl : _ = Value.pointer (some ⟨b11, 0, none⟩)) (by kernel_rfl : _ = Value.agg #[.int .i64 vw7, .int .i64 vh8, .slice A333 x332.length c334]) rfl rfl (by intro u_ hu_; simp only [List.mem_cons, List.not_mem_nil, or_false] at hu_; rcases hu_ with rfl | rfl | rfl <;> rfl) HS357 (Nat.le_of_ble_eq_true rfl) (by kernel_rfl) ?_)
    intro W358 HS359
    refine wpList_nil ?_
    refine hK356 _ _ ?_
    refine wp_ret ?_
    refine hret _ _ ?_
    refine ends (v := Value.agg #[.int .i64 vw7, .int .i64 vh8, .slice A333 x332.length c334]) (results1 (q1 := .cell 6 34) (by kernel_rfl) (resN (n := 3) (cs := [.int .i64 vw7, .int .i64 vh8, .slice A333 x332.length c334]) (by kernel_rfl : _ = Value.pointer (some ⟨b11, 0, none⟩)) Try.underlying34 rfl (by kernel_rfl) rfl (HS359.cells 0 3 _ rfl))) (by kernel_rfl) ?_
    have HS360 := HS359.u2
    have HS361 := HS360.u2
    have HS362 := HS361.u3
    have HS363 := HS362.u3
    have HS364 := HS363.drop
    have HS365 := HS364.drop
    injection h with h
    injection h with h0_ h
    subst h0_ h
    exact ⟨f326, A333, c334, s335, rfl, (L30.trans (L37.trans L327)), HS365, HO336⟩
  clear h; have h := hv338; clear hv338
  have HS341 := HS39.cons_nil
  refine loopK (fun n_ a_ w_ => ∃ (f190 : FM) (A198 : Option Addr) (c199 : Nat) (s200 : Seg) (x195 : Int) (x196 : Int) (x197 : List S_Bound) (j194 : Nat → Value), FM.le f36 f190 ∧ St t w_ f190 (s200 :: [(b1, .cells #[.slice A4 s3.L.length c5, .int .i64 x196] 25 (0, 0))] :: [(b17, .cells #[.int .i64 vw7, .int .i64 vh8, .slice A198 x197.length c199] 34 (0, 0))] :: [(b11, .cells #[.int .i64 0, .int .i64 0, .slice none 0 0] 34 (0, 0))] :: H) ∧ Own ty_Bound 44 f190 A198 c199 s200 x197 ∧ spymake_Stream_Field.l0 k vw7 vh8 s3 vt26 vt33 n_ x195 x196 x197 = some o186 ∧ a_ = ⟨#[.pointer (some ⟨b1, 0, none⟩), iV vw7, iV vh8, uV, uV, uV, .pointer (some ⟨b11, 0, none⟩), .pointer (some ⟨b17, 0, none⟩), iV vt26, iV vt33, (j194 0), (j194 1), iV vw7, iV vh8, .agg #[iV vw7, iV vh8, .slice none 0 0], .pointer (some ⟨b1, 0, none⟩), iV vt26, .pointer (some ⟨b1, 0, none⟩), iV vt33, iV vw7, iV vh8, iV (w64 (vw7 * vh8)), iV x195, (j194 2), (j194 3), (j194 4), (j194 5), (j194 6), (j194 7), (j194 8), (j194 9), (j194 10), (j194 11), (j194 12), (j194 13), (j194 14), (j194 15), (j194 16), (j194 17), (j194 18), (j194 19), (j194 20), (j194 21), (j194 22), (j194 23), (j194 24), (j194 25), (j194 26), (j194 27), (j194 28), (j194 29), (j194 30), (j194 31), (j194 32), (j194 33), (j194 34), uV], []⟩) k ⟨f36, none, 0, [], 0, vt34, ([] : List S_Bound), (fun i_ => [undef, undef, undef, undef, undef, undef, undef, undef, undef, undef, undef, undef, undef, undef, undef, undef, undef, undef, undef, undef, undef, undef, undef, undef, undef, undef, undef, undef, undef, undef, undef, undef, undef, undef, undef].getD i_ undef), (FM.le.refl _), HS341, (Own.nil _), h, (by kernel_rfl)⟩ ?_
  clear h
  rintro n189 _ W192 ⟨f190, A198, c199, s200, x195, x196, x197, j194, L191, HS193, HO201, h, rfl⟩ K187 hK188
  obtain _ | n189 := n189
  · exact nomatch h
  simp only [spymake_Stream_Field.l0] at h
  refine wp_seq_k (fun K203 hK204 => ?_)
  refine wp_region_lit ?_
  refine seqS1 (a' := ⟨#[.pointer (some ⟨b1, 0, none⟩), iV vw7, iV vh8, uV, uV, uV, .pointer (some ⟨b11, 0, none⟩), .pointer (some ⟨b17, 0, none⟩), iV vt26, iV vt33, (j194 0), (j194 1), iV vw7, iV vh8, .agg #[iV vw7, iV vh8, .slice none 0 0], .pointer (some ⟨b1, 0, none⟩), iV vt26, .pointer (some ⟨b1, 0, none⟩), iV vt33, iV vw7, iV vh8, iV (w64 (vw7 * vh8)), iV x195, .bool (decide (x195 < (w64 (vw7 * vh8)))), (j194 3), (j194 4), (j194 5), (j194 6), (j194 7), (j194 8), (j194 9), (j194 10), (j194 11), (j194 12), (j194 13), (j194 14), (j194 15), (j194 16), (j194 17), (j194 18), (j194 19), (j194 20), (j194 21), (j194 22), (j194 23), (j194 24), (j194 25), (j194 26), (j194 27), (j194 28), (j194 29), (j194 30), (j194 31), (j194 32), (j194 33), (j194 34), uV], []⟩) (by kernel_rfl) ?_
  refine wpList_nil ?_
  refine hK204 _ _ ?_
  refine wp_seq_k (fun K205 hK206 => ?_)
  have hq_ := ite_some h; clear h; rcases hq_ with ⟨c208, h⟩ | ⟨c208, h⟩
  · have c208 : x195 < (w64 (vw7 * vh8)) := c208
    refine wpRwI 23 (x := (decide (x195 < (w64 (vw7 * vh8))))) (v := true) (by kernel_rfl) (decide_eq_true c208) ?_
    refine condT (by kernel_rfl) ?_
    refine wp_skip ?_
    refine hK206 _ _ ?_
    refine wp_seq_k (fun K209 hK210 => ?_)
    refine blockK (fun B211 hx212 hn213 hr214 ho215 hp216 => ?_)
    refine wp_seq_k (fun K218 hK219 => ?_)
    refine wp_region_lit ?_
    refine seqS2 (a' := ⟨#[.pointer (some ⟨b1, 0, none⟩), iV vw7, iV vh8, uV, uV, uV, .pointer (some ⟨b11, 0, none⟩), .pointer (some ⟨b17, 0, none⟩), iV vt26, iV vt33, iV vt26, (j194 1), iV vw7, iV vh8, .agg #[iV vw7, iV vh8, .slice none 0 0], .pointer (some ⟨b1, 0, none⟩), iV vt26, .pointer (some ⟨b1, 0, none⟩), iV vt33, iV vw7, iV vh8, iV (w64 (vw7 * vh8)), iV x195, .bool true, iV vt26, (j194 4), (j194 5), (j194 6), (j194 7), (j194 8), (j194 9), (j194 10), (j194 11), (j194 12), (j194 13), (j194 14), (j194 15), (j194 16), (j194 17), (j194 18), (j194 19), (j194 20), (j194 21), (j194 22), (j194 23), (j194 24), (j194 25), (j194 26), (j194 27), (j194 28), (j194 29), (j194 30), (j194 31), (j194 32), (j194 33), (j194 34), uV], []⟩) (by kernel_rfl) ?_
    refine wpList_nil ?_
    refine hK219 _ _ ?_
    refine wp_seq_k (fun K220 hK221 => ?_)
    refine wp_seq_k (fun K222 hK223 => ?_)
    refine wp_region_lit ?_
    have HS224 := HS193.u1
    have hq_ := bind_some h; clear h; obtain ⟨⟨vt225, vt226⟩, hc227, h⟩ := hq_
    refine seqL1 (by kernel_rfl) ?_
    refine seqK rfl (does_call (f := 12) (args := #[.pointer (some ⟨b1, 0, none⟩), .int .i64 5]) (by kernel_rfl) (spymake_Stream_Next.calls k b1 A4 c5 (⟨s3.L, x196⟩ : S_Stream) 5 HS224 (HR6.mono (L30.trans (L37.trans L191))) vt225 vt226 hc227) ?_)
    rintro _ W230 ⟨f228, rfl, L229, HS231⟩
    refine ⟨_, rfl, ?_⟩
    refine seqS1 (a' := ⟨#[.pointer (some ⟨b1, 0, none⟩), iV vw7, iV vh8, uV, uV, uV, .pointer (some ⟨b11, 0, none⟩), .pointer (some ⟨b17, 0, none⟩), iV vt26, iV vt33, iV vt26, (j194 1), iV vw7, iV vh8, .agg #[iV vw7, iV vh8, .slice none 0 0], .pointer (some ⟨b1, 0, none⟩), iV vt26, .pointer (some ⟨b1, 0, none⟩), iV vt33, iV vw7, iV vh8, iV (w64 (vw7 * vh8)), iV x195, .bool true, iV vt26, .pointer (some ⟨b1, 0, none⟩), iV vt225, .bool (vt225 == 0), (j194 7), (j194 8), (j194 9), (j194 10), (j194 11), (j194 12), (j194 13), (j194 14), (j194 15), (j194 16), (j194 17), (j194 18), (j194 19), (j194 20), (j194 21), (j194 22), (j194 23), (j194 24), (j194 25), (j194 26), (j194 27), (j194 28), (j194 29), (j194 30), (j194 31), (j194 32), (j194 33), (j194 34), uV], []⟩) (by kernel_rfl) ?_
    refine wpList_nil ?_
    refine hK223 _ _ ?_
    have hq_ := bind_some h; clear h; obtain ⟨v232, hv248, h⟩ := hq_
    have J249 : ∀ (f241 : FM) (light246 : Int) (x247 : Int) (j245 : Nat → Value) (W243 : World) (a_ : Act), FM.le f228 f241 → some ((light246, x247)) = some v232 → St t W243 f241 ([(b1, .cells #[.slice A4 s3.L.length c5, .int .i64 x247] 25 (0, 0))] :: s200 :: [(b17, .cells #[.int .i64 vw7, .int .i64 vh8, .slice A198 x197.length c199] 34 (0, 0))] :: [(b11, .cells #[.int .i64 0, .int .i64 0, .slice none 0 0] 34 (0, 0))] :: H) → a_ = ⟨#[.pointer (some ⟨b1, 0, none⟩), iV vw7, iV vh8, uV, uV, uV, .pointer (some ⟨b11, 0, none⟩), .pointer (some ⟨b17, 0, none⟩), iV vt26, iV vt33, iV light246, (j194 1), iV vw7, iV vh8, .agg #[iV vw7, iV vh8, .slice none 0 0], .pointer (some ⟨b1, 0, none⟩), iV vt26, .pointer (some ⟨b1, 0, none⟩), iV vt33, iV vw7, iV vh8, iV (w64 (vw7 * vh8)), iV x195, .bool true, iV vt26, .pointer (some ⟨b1, 0, none⟩), iV vt225, (j245 0), (j245 1), (j245 2), (j245 3), (j245 4), (j194 11), (j194 12), (j194 13), (j194 14), (j194 15), (j194 16), (j194 17), (j194 18), (j194 19), (j194 20), (j194 21), (j194 22), (j194 23), (j194 24), (j194 25), (j194 26), (j194 27), (j194 28), (j194 29), (j194 30), (j194 31), (j194 32), (j194 33), (j194 34), uV], []⟩ → K220 a_ W243 := by
      intro f241 light246 x247 j245 W243 a_ L242 hj250 HS244  hfr_; subst hfr_
      injection hj250 with hj250; subst hj250; try dsimp only at h
      refine hK221 _ _ ?_
      refine wp_seq_k (fun K251 hK252 => ?_)
      refine wp_region_lit ?_
      have hq_ := bind_some h; clear h; obtain ⟨⟨vt253, vt254⟩, hc255, h⟩ := hq_
      refine seqL4 (by kernel_rfl) ?_
      refine seqK rfl (does_call (f := 12) (args := #[.pointer (some ⟨b1, 0, none⟩), .int .i64 (w64 (vt33 + 1))]) (by kernel_rfl) (spymake_Stream_Next.calls k b1 A4 c5 (⟨s3.L, x247⟩ : S_Stream) (w64 (vt33 + 1)) HS244 (HR6.mono (L30.trans (L37.trans (L191.trans (L229.trans L242))))) vt253 vt254 hc255) ?_)
      rintro _ W258 ⟨f256, rfl, L257, HS259⟩
      refine ⟨_, rfl, ?_⟩
      have hq_ := bind_some h; clear h; obtain ⟨⟨vt260, vt261⟩, hc262, h⟩ := hq_
      refine seqL5 (by kernel_rfl) ?_
      refine seqK rfl (does_call (f := 12) (args := #[.pointer (some ⟨b1, 0, none⟩), .int .i64 (w64 (vt33 + 1))]) (by kernel_rfl) (spymake_Stream_Next.calls k b1 A4 c5 (⟨s3.L, vt254⟩ : S_Stream) (w64 (vt33 + 1)) HS259 (HR6.mono (L30.trans (L37.trans (L191.trans (L229.trans (L242.trans L257)))))) vt260 vt261 hc262) ?_)
      rintro _ W265 ⟨f263, rfl, L264, HS266⟩
      refine ⟨_, rfl, ?_⟩
      refine seqL2 (by kernel_rfl) ?_
      refine seqK rfl (does_alloc (z := Value.agg #[.int .i64 0, .int .i64 0, .bool false]) (cs := #[.int .i64 0, .int .i64 0, .bool false]) rfl (by kernel_rfl) rfl HS266 ?_)
      intro b267 W268 HS269
      refine seqK rfl (does_store (n := 3) (vs := [.int .i64 (w64 (light246 - vt253)), .int .i64 (w64 (light246 + vt260)), .bool false]) (cs' := #[.int .i64 (w64 (light246 - vt253)), .int .i64 (w64 (light246 + vt260)), .bool false]) rfl (by kernel_rfl) (by kernel_rfl : _ = Value.pointer (some ⟨b267, 0, none⟩)) (by kernel_rfl : _ = Value.agg #[.int .i64 (w64 (light246 - vt253)), .int .i64 (w64 (light246 + vt260)), .bool false]) rfl rfl (by intro u_ hu_; simp only [List.mem_cons, List.not_mem_nil, or_false] at hu_; rcases hu_ with rfl | rfl | rfl <;> rfl) HS269 (Nat.le_of_ble_eq_true rfl) (by kernel_rfl) ?_)
      intro W271 HS272
      refine wpList_nil ?_
      refine hK252 _ _ ?_
      refine wp_seq_k (fun K273 hK274 => ?_)
      refine wp_seq_k (fun K275 hK276 => ?_)
      refine wp_region_lit ?_
      have HS277 := HS272.u1
      have hq_ := bind_some h; clear h; obtain ⟨⟨vt278, vt279⟩, hc280, h⟩ := hq_
      refine seqL1 (by kernel_rfl) ?_
      refine seqK rfl (does_call (f := 12) (args := #[.pointer (some ⟨b1, 0, none⟩), .int .i64 15]) (by kernel_rfl) (spymake_Stream_Next.calls k b1 A4 c5 (⟨s3.L, vt261⟩ : S_Stream) 15 HS277 (HR6.mono (L30.trans (L37.trans (L191.trans (L229.trans (L242.trans (L257.trans L264))))))) vt278 vt279 hc280) ?_)
      rintro _ W283 ⟨f281, rfl, L282, HS284⟩
      refine ⟨_, rfl, ?_⟩
      refine seqS1 (a' := ⟨#[.pointer (some ⟨b1, 0, none⟩), iV vw7, iV vh8, uV, uV, uV, .pointer (some ⟨b11, 0, none⟩), .pointer (some ⟨b17, 0, none⟩), iV vt26, iV vt33, iV light246, .pointer (some ⟨b267, 0, none⟩), iV vw7, iV vh8, .agg #[iV vw7, iV vh8, .slice none 0 0], .pointer (some ⟨b1, 0, none⟩), iV vt26, .pointer (some ⟨b1, 0, none⟩), iV vt33, iV vw7, iV vh8, iV (w64 (vw7 * vh8)), iV x195, .bool true, iV vt26, .pointer (some ⟨b1, 0, none⟩), iV vt225, (j245 0), (j245 1), (j245 2), (j245 3), (j245 4), iV light246, .pointer (some ⟨b1, 0, none⟩), iV vt33, iV (w64 (vt33 + 1)), iV vt253, iV (w64 (light246 - vt253)), iV light246, .pointer (some ⟨b1, 0, none⟩), iV vt33, iV (w64 (vt33 + 1)), iV vt260, iV (w64 (light246 + vt260)), .agg #[iV (w64 (light246 - vt253)), iV (w64 (light246 + vt260)), .bool false], .pointer (some ⟨b1, 0, none⟩), iV vt278, .bool (vt278 == 0), (j194 27), (j194 28), (j194 29), (j194 30), (j194 31), (j194 32), (j194 33), (j194 34), uV], []⟩) (by kernel_rfl) ?_
      refine wpList_nil ?_
      refine hK276 _ _ ?_
      have hq_ := ite_some h; clear h; rcases hq_ with ⟨c286, h⟩ | ⟨c286, h⟩
      · have c286 : vt278 = 0 := c286
        refine wpRwI 47 (x := (vt278 == 0)) (v := true) (by kernel_rfl) (beq_iff_eq.mpr c286) ?_
        refine condT (by kernel_rfl) ?_
        refine wp_region_lit ?_
        have HS287 := HS284.u1
        refine seqL1 (by kernel_rfl) ?_
        refine seqK rfl (does_store (n := 3) (vs := [.int .i64 0, .int .i64 0, .bool true]) (cs' := #[.int .i64 0, .int .i64 0, .bool true]) rfl (by kernel_rfl) (by kernel_rfl : _ = Value.pointer (some ⟨b267, 0, none⟩)) (by kernel_rfl : _ = Value.agg #[.int .i64 0, .int .i64 0, .bool true]) rfl rfl (by intro u_ hu_; simp only [List.mem_cons, List.not_mem_nil, or_false] at hu_; rcases hu_ with rfl | rfl | rfl <;> rfl) HS287 (Nat.le_of_ble_eq_true rfl) (by kernel_rfl) ?_)
        intro W288 HS289
        refine wpList_nil ?_
        refine hK274 _ _ ?_
        refine wp_region_lit ?_
        refine seqL1 (by kernel_rfl) ?_
        refine seqK rfl (does_run (run_load rfl Try.underlying32 rfl (by kernel_rfl : _ = Value.pointer (some ⟨b17, 2, none⟩)) (HS289.u3.cell 2)) ?_)
        refine seqK rfl (does_run (run_loadN (n := 3) rfl Try.underlying44 rfl (by kernel_rfl) (by kernel_rfl : _ = Value.pointer (some ⟨b267, 0, none⟩)) (cs := [.int .i64 0, .int .i64 0, .bool true]) rfl (HS289.cells 0 3 _ rfl)) ?_)
        refine seqK rfl (does_lit (e := ty_Bound) (E := 44) (vs := #[(0, Value.agg #[.int .i64 0, .int .i64 0, .bool true])]) (cs := #[.int .i64 0, .int .i64 0, .bool true]) (xs := ([(⟨0, 0, true⟩ : S_Bound)] : List S_Bound)) rfl Try.underlying32 (by kernel_rfl) (by kernel_rfl) ⟨[.int .i64 0, .int .i64 0, .bool true], _, rfl, rfl, rfl⟩ rfl HS289 ?_ (by decide))
        intro b290 W291 s292 HS293 _ HO294
        have hq_ := guard_some h; clear h; obtain ⟨c296, h⟩ := hq_
        have c296 : (x197.length + 1) * 24 ≤ 140737488355328 := c296
        have HS297 := HS293.u3
        have HS298 := HS297.u1
        refine seqK rfl (does_append1 (e := ty_Bound) (E := 44) (xs := x197) (ys := ([(⟨0, 0, true⟩ : S_Bound)] : List S_Bound)) rfl (by kernel_rfl : _ = Value.slice A198 x197.length c199) (by kernel_rfl : _ = Value.slice (some ⟨b290, 0, none⟩) ([(⟨0, 0, true⟩ : S_Bound)] : List S_Bound).length 1) Try.underlying32 inf44 (HO201.mono (L229.trans (L242.trans (L257.trans (L264.trans L282))))) HO294 HS298 c296 (lim63 c296 (by decide)) ?_)
        intro A299 c300 s301 W302 HS303 HO304
        have HS305 := HS303.u3
        refine seqL1 (by kernel_rfl) ?_
        refine seqK rfl (does_store (n := 1) (vs := [.slice A299 (x197 ++ ([(⟨0, 0, true⟩ : S_Bound)] : List S_Bound)).length c300]) (cs' := #[.int .i64 vw7, .int .i64 vh8, .slice A299 (x197 ++ ([(⟨0, 0, true⟩ : S_Bound)] : List S_Bound)).length c300]) rfl (by kernel_rfl) (by kernel_rfl : _ = Value.pointer (some ⟨b17, 2, none⟩)) (by kernel_rfl : _ = Value.slice A299 (x197 ++ ([(⟨0, 0, true⟩ : S_Bound)] : List S_Bound)).length c300) rfl rfl (by intro u_ hu_; simp only [List.mem_cons, List.not_mem_nil, or_false] at hu_; subst hu_; rfl) HS305 (Nat.le_of_ble_eq_true rfl) (by kernel_rfl) ?_)
        intro W306 HS307
        refine wpList_nil ?_
        refine hn213 _ _ ?_
        refine hK210 _ _ ?_
        refine wp_region_lit ?_
        refine seqS2 (a' := ⟨#[.pointer (some ⟨b1, 0, none⟩), iV vw7, iV vh8, uV, uV, uV, .pointer (some ⟨b11, 0, none⟩), .pointer (some ⟨b17, 0, none⟩), iV vt26, iV vt33, iV light246, .pointer (some ⟨b267, 0, none⟩), iV vw7, iV vh8, .agg #[iV vw7, iV vh8, .slice none 0 0], .pointer (some ⟨b1, 0, none⟩), iV vt26, .pointer (some ⟨b1, 0, none⟩), iV vt33, iV vw7, iV vh8, iV (w64 (vw7 * vh8)), iV (w64 (x195 + 1)), .bool true, iV vt26, .pointer (some ⟨b1, 0, none⟩), iV vt225, (j245 0), (j245 1), (j245 2), (j245 3), (j245 4), iV light246, .pointer (some ⟨b1, 0, none⟩), iV vt33, iV (w64 (vt33 + 1)), iV vt253, iV (w64 (light246 - vt253)), iV light246, .pointer (some ⟨b1, 0, none⟩), iV vt33, iV (w64 (vt33 + 1)), iV vt260, iV (w64 (light246 + vt260)), .agg #[iV (w64 (light246 - vt253)), iV (w64 (light246 + vt260)), .bool false], .pointer (some ⟨b1, 0, none⟩), iV vt278, .bool true, .agg #[iV 0, iV 0, .bool true], .pointer (some ⟨b17, 2, none⟩), .slice A198 x197.length c199, .agg #[iV 0, iV 0, .bool true], .slice (some ⟨b290, 0, none⟩) ([(⟨0, 0, true⟩ : S_Bound)] : List S_Bound).length 1, .slice A299 (x197 ++ ([(⟨0, 0, true⟩ : S_Bound)] : List S_Bound)).length c300, .pointer (some ⟨b17, 2, none⟩), iV (w64 (x195 + 1)), uV], []⟩) (by kernel_rfl) ?_
        refine wpList_nil ?_
        refine hK188 n189 _ _ (Nat.lt_succ_self _) ?_
        have HS343 := HS307.u4
        have HS344 := HS343.u1
        have HS345 := HS344.u4
        have HS346 := HS345.u3
        have HS347 := HS346.u4
        have HS348 := HS347.drop
        exact ⟨f281, A299, c300, s301, (w64 (x195 + 1)), vt279, (x197 ++ ([(⟨0, 0, true⟩ : S_Bound)] : List S_Bound)), (fun i_ => [Value.int .i64 light246, Value.pointer (some ⟨b267, 0, none⟩), Value.bool true, Value.int .i64 vt26, Value.pointer (some ⟨b1, 0, none⟩), Value.int .i64 vt225, (j245 0), (j245 1), (j245 2), (j245 3), (j245 4), Value.int .i64 light246, Value.pointer (some ⟨b1, 0, none⟩), Value.int .i64 vt33, Value.int .i64 (w64 (vt33 + 1)), Value.int .i64 vt253, Value.int .i64 (w64 (light246 - vt253)), Value.int .i64 light246, Value.pointer (some ⟨b1, 0, none⟩), Value.int .i64 vt33, Value.int .i64 (w64 (vt33 + 1)), Value.int .i64 vt260, Value.int .i64 (w64 (light246 + vt260)), Value.agg #[.int .i64 (w64 (light246 - vt253)), .int .i64 (w64 (light246 + vt260)), .bool false], Value.pointer (some ⟨b1, 0, none⟩), Value.int .i64 vt278, Value.bool true, Value.agg #[.int .i64 0, .int .i64 0, .bool true], Value.pointer (some ⟨b17, 2, none⟩), Value.slice A198 x197.length c199, Value.agg #[.int .i64 0, .int .i64 0, .bool true], Value.slice (some ⟨b290, 0, none⟩) ([(⟨0, 0, true⟩ : S_Bound)] : List S_Bound).length 1, Value.slice A299 (x197 ++ ([(⟨0, 0, true⟩ : S_Bound)] : List S_Bound)).length c300, Value.pointer (some ⟨b17, 2, none⟩), Value.int .i64 (w64 (x195 + 1))].getD i_ undef), (L191.trans (L229.trans (L242.trans (L257.trans (L264.trans L282))))), HS348, HO304, h, (by kernel_rfl)⟩
      · have c286 : ¬ (vt278 = 0) := c286
        refine wpRwI 47 (x := (vt278 == 0)) (v := false) (by kernel_rfl) (beq_eq_false_iff_ne.mpr c286) ?_
        refine condF (by kernel_rfl) ?_
        refine wp_skip ?_
        refine hK274 _ _ ?_
        refine wp_region_lit ?_
        refine seqL1 (by kernel_rfl) ?_
        refine seqK rfl (does_run (run_load rfl Try.underlying32 rfl (by kernel_rfl : _ = Value.pointer (some ⟨b17, 2, none⟩)) (HS284.u3.cell 2)) ?_)
        refine seqK rfl (does_run (run_loadN (n := 3) rfl Try.underlying44 rfl (by kernel_rfl) (by kernel_rfl : _ = Value.pointer (some ⟨b267, 0, none⟩)) (cs := [.int .i64 (w64 (light246 - vt253)), .int .i64 (w64 (light246 + vt260)), .bool false]) rfl (HS284.u1.cells 0 3 _ rfl)) ?_)
        refine seqK rfl (does_lit (e := ty_Bound) (E := 44) (vs := #[(0, Value.agg #[.int .i64 (w64 (light246 - vt253)), .int .i64 (w64 (light246 + vt260)), .bool false])]) (cs := #[.int .i64 (w64 (light246 - vt253)), .int .i64 (w64 (light246 + vt260)), .bool false]) (xs := ([(⟨w64 (light246 - vt253), w64 (light246 + vt260), false⟩ : S_Bound)] : List S_Bound)) rfl Try.underlying32 (by kernel_rfl) (by kernel_rfl) ⟨[.int .i64 (w64 (light246 - vt253)), .int .i64 (w64 (light246 + vt260)), .bool false], _, rfl, rfl, rfl⟩ rfl HS284 ?_ (by decide))
        intro b308 W309 s310 HS311 _ HO312
        have hq_ := guard_some h; clear h; obtain ⟨c314, h⟩ := hq_
        have c314 : (x197.length + 1) * 24 ≤ 140737488355328 := c314
        have HS315 := HS311.u3
        have HS316 := HS315.u1
        refine seqK rfl (does_append1 (e := ty_Bound) (E := 44) (xs := x197) (ys := ([(⟨w64 (light246 - vt253), w64 (light246 + vt260), false⟩ : S_Bound)] : List S_Bound)) rfl (by kernel_rfl : _ = Value.slice A198 x197.length c199) (by kernel_rfl : _ = Value.slice (some ⟨b308, 0, none⟩) ([(⟨w64 (light246 - vt253), w64 (light246 + vt260), false⟩ : S_Bound)] : List S_Bound).length 1) Try.underlying32 inf44 (HO201.mono (L229.trans (L242.trans (L257.trans (L264.trans L282))))) HO312 HS316 c314 (lim63 c314 (by decide)) ?_)
        intro A317 c318 s319 W320 HS321 HO322
        have HS323 := HS321.u3
        refine seqL1 (by kernel_rfl) ?_
        refine seqK rfl (does_store (n := 1) (vs := [.slice A317 (x197 ++ ([(⟨w64 (light246 - vt253), w64 (light246 + vt260), false⟩ : S_Bound)] : List S_Bound)).length c318]) (cs' := #[.int .i64 vw7, .int .i64 vh8, .slice A317 (x197 ++ ([(⟨w64 (light246 - vt253), w64 (light246 + vt260), false⟩ : S_Bound)] : List S_Bound)).length c318]) rfl (by kernel_rfl) (by kernel_rfl : _ = Value.pointer (some ⟨b17, 2, none⟩)) (by kernel_rfl : _ = Value.slice A317 (x197 ++ ([(⟨w64 (light246 - vt253), w64 (light246 + vt260), false⟩ : S_Bound)] : List S_Bound)).length c318) rfl rfl (by intro u_ hu_; simp only [List.mem_cons, List.not_mem_nil, or_false] at hu_; subst hu_; rfl) HS323 (Nat.le_of_ble_eq_true rfl) (by kernel_rfl) ?_)
        intro W324 HS325
        refine wpList_nil ?_
        refine hn213 _ _ ?_
        refine hK210 _ _ ?_
        refine wp_region_lit ?_
        refine seqS2 (a' := ⟨#[.pointer (some ⟨b1, 0, none⟩), iV vw7, iV vh8, uV, uV, uV, .pointer (some ⟨b11, 0, none⟩), .pointer (some ⟨b17, 0, none⟩), iV vt26, iV vt33, iV light246, .pointer (some ⟨b267, 0, none⟩), iV vw7, iV vh8, .agg #[iV vw7, iV vh8, .slice none 0 0], .pointer (some ⟨b1, 0, none⟩), iV vt26, .pointer (some ⟨b1, 0, none⟩), iV vt33, iV vw7, iV vh8, iV (w64 (vw7 * vh8)), iV (w64 (x195 + 1)), .bool true, iV vt26, .pointer (some ⟨b1, 0, none⟩), iV vt225, (j245 0), (j245 1), (j245 2), (j245 3), (j245 4), iV light246, .pointer (some ⟨b1, 0, none⟩), iV vt33, iV (w64 (vt33 + 1)), iV vt253, iV (w64 (light246 - vt253)), iV light246, .pointer (some ⟨b1, 0, none⟩), iV vt33, iV (w64 (vt33 + 1)), iV vt260, iV (w64 (light246 + vt260)), .agg #[iV (w64 (light246 - vt253)), iV (w64 (light246 + vt260)), .bool false], .pointer (some ⟨b1, 0, none⟩), iV vt278, .bool false, (j194 27), .pointer (some ⟨b17, 2, none⟩), .slice A198 x197.length c199, .agg #[iV (w64 (light246 - vt253)), iV (w64 (light246 + vt260)), .bool false], .slice (some ⟨b308, 0, none⟩) ([(⟨w64 (light246 - vt253), w64 (light246 + vt260), false⟩ : S_Bound)] : List S_Bound).length 1, .slice A317 (x197 ++ ([(⟨w64 (light246 - vt253), w64 (light246 + vt260), false⟩ : S_Bound)] : List S_Bound)).length c318, .pointer (some ⟨b17, 2, none⟩), iV (w64 (x195 + 1)), uV], []⟩) (by kernel_rfl) ?_
        refine wpList_nil ?_
        refine hK188 n189 _ _ (Nat.lt_succ_self _) ?_
        have HS349 := HS325.u4
        have HS350 := HS349.u1
        have HS351 := HS350.u3
        have HS352 := HS351.u3
        have HS353 := HS352.u4
        have HS354 := HS353.drop
        exact ⟨f281, A317, c318, s319, (w64 (x195 + 1)), vt279, (x197 ++ ([(⟨w64 (light246 - vt253), w64 (light246 + vt260), false⟩ : S_Bound)] : List S_Bound)), (fun i_ => [Value.int .i64 light246, Value.pointer (some ⟨b267, 0, none⟩), Value.bool true, Value.int .i64 vt26, Value.pointer (some ⟨b1, 0, none⟩), Value.int .i64 vt225, (j245 0), (j245 1), (j245 2), (j245 3), (j245 4), Value.int .i64 light246, Value.pointer (some ⟨b1, 0, none⟩), Value.int .i64 vt33, Value.int .i64 (w64 (vt33 + 1)), Value.int .i64 vt253, Value.int .i64 (w64 (light246 - vt253)), Value.int .i64 light246, Value.pointer (some ⟨b1, 0, none⟩), Value.int .i64 vt33, Value.int .i64 (w64 (vt33 + 1)), Value.int .i64 vt260, Value.int .i64 (w64 (light246 + vt260)), Value.agg #[.int .i64 (w64 (light246 - vt253)), .int .i64 (w64 (light246 + vt260)), .bool false], Value.pointer (some ⟨b1, 0, none⟩), Value.int .i64 vt278, Value.bool false, (j194 27), Value.pointer (some ⟨b17, 2, none⟩), Value.slice A198 x197.length c199, Value.agg #[.int .i64 (w64 (light246 - vt253)), .int .i64 (w64 (light246 + vt260)), .bool false], Value.slice (some ⟨b308, 0, none⟩) ([(⟨w64 (light246 - vt253), w64 (light246 + vt260), false⟩ : S_Bound)] : List S_Bound).length 1, Value.slice A317 (x197 ++ ([(⟨w64 (light246 - vt253), w64 (light246 + vt260), false⟩ : S_Bound)] : List S_Bound)).length c318, Value.pointer (some ⟨b17, 2, none⟩), Value.int .i64 (w64 (x195 + 1))].getD i_ undef), (L191.trans (L229.trans (L242.trans (L257.trans (L264.trans L282))))), HS354, HO322, h, (by kernel_rfl)⟩
    clear h; have h := hv248; clear hv248
    have hq_ := ite_some h; clear h; rcases hq_ with ⟨c233, h⟩ | ⟨c233, h⟩
    · have c233 : vt225 = 0 := c233
      refine wpRwI 27 (x := (vt225 == 0)) (v := true) (by kernel_rfl) (beq_iff_eq.mpr c233) ?_
      refine condT (by kernel_rfl) ?_
      refine wp_region_lit ?_
      have hq_ := bind_some h; clear h; obtain ⟨⟨vt234, vt235⟩, hc236, h⟩ := hq_
      refine seqL2 (by kernel_rfl) ?_
      refine seqK rfl (does_call (f := 12) (args := #[.pointer (some ⟨b1, 0, none⟩), .int .i64 2000]) (by kernel_rfl) (spymake_Stream_Next.calls k b1 A4 c5 (⟨s3.L, vt226⟩ : S_Stream) 2000 HS231 (HR6.mono (L30.trans (L37.trans (L191.trans L229)))) vt234 vt235 hc236) ?_)
      rintro _ W239 ⟨f237, rfl, L238, HS240⟩
      refine ⟨_, rfl, ?_⟩
      refine seqS2 (a' := ⟨#[.pointer (some ⟨b1, 0, none⟩), iV vw7, iV vh8, uV, uV, uV, .pointer (some ⟨b11, 0, none⟩), .pointer (some ⟨b17, 0, none⟩), iV vt26, iV vt33, iV (w64 (vt26 + vt234)), (j194 1), iV vw7, iV vh8, .agg #[iV vw7, iV vh8, .slice none 0 0], .pointer (some ⟨b1, 0, none⟩), iV vt26, .pointer (some ⟨b1, 0, none⟩), iV vt33, iV vw7, iV vh8, iV (w64 (vw7 * vh8)), iV x195, .bool true, iV vt26, .pointer (some ⟨b1, 0, none⟩), iV vt225, .bool true, iV vt26, .pointer (some ⟨b1, 0, none⟩), iV vt234, iV (w64 (vt26 + vt234)), (j194 11), (j194 12), (j194 13), (j194 14), (j194 15), (j194 16), (j194 17), (j194 18), (j194 19), (j194 20), (j194 21), (j194 22), (j194 23), (j194 24), (j194 25), (j194 26), (j194 27), (j194 28), (j194 29), (j194 30), (j194 31), (j194 32), (j194 33), (j194 34), uV], []⟩) (by kernel_rfl) ?_
      refine wpList_nil ?_
      exact J249 f237 (w64 (vt26 + vt234)) vt235 (fun i_ => [Value.bool true, Value.int .i64 vt26, Value.pointer (some ⟨b1, 0, none⟩), Value.int .i64 vt234, Value.int .i64 (w64 (vt26 + vt234))].getD i_ undef) W239 _ L238 h HS240 (by kernel_rfl)
    · have c233 : ¬ (vt225 = 0) := c233
      refine wpRwI 27 (x := (vt225 == 0)) (v := false) (by kernel_rfl) (beq_eq_false_iff_ne.mpr c233) ?_
      refine condF (by kernel_rfl) ?_
      refine wp_skip ?_
      exact J249 f228 vt26 vt226 (fun i_ => [Value.bool false, (j194 7), (j194 8), (j194 9), (j194 10)].getD i_ undef) W230 _ (FM.le.refl _) h HS231 (by kernel_rfl)
  · have c208 : ¬ (x195 < (w64 (vw7 * vh8))) := c208
    refine wpRwI 23 (x := (decide (x195 < (w64 (vw7 * vh8))))) (v := false) (by kernel_rfl) (decide_eq_false c208) ?_
    refine condF (by kernel_rfl) ?_
    refine wp_exit ?_
    refine hx45 _ _ ?_
    exact J339 f190 A198 c199 s200 x196 x197 (fun i_ => [(j194 0), (j194 1), Value.int .i64 x195, Value.bool false, (j194 3), (j194 4), (j194 5), (j194 6), (j194 7), (j194 8), (j194 9), (j194 10), (j194 11), (j194 12), (j194 13), (j194 14), (j194 15), (j194 16), (j194 17), (j194 18), (j194 19), (j194 20), (j194 21), (j194 22), (j194 23), (j194 24), (j194 25), (j194 26), (j194 27), (j194 28), (j194 29), (j194 30), (j194 31), (j194 32), (j194 33), (j194 34)].getD i_ undef) W192 _ L191 h HS193 HO201 (by kernel_rfl)

set_option maxRecDepth 100000 in
set_option maxHeartbeats 4000000 in
theorem bound_Check_Quanta.calls (k : Nat)  (b1 : S_Bound) {t w : World} {f : FM} {H : List Seg} (HS : St t w f (H)) (r1 : Int) (h : bound_Check_Quanta k b1 = some r1) :
    Calls Try.prog 71 #[.agg #[.int .i64 b1.Lo, .int .i64 b1.Hi, .bool b1.Unknown]] w (fun e w' => ∃ (g : FM), e = .returned (Value.int .i64 r1) ∧ FM.le f g ∧ St t w' g (H)) := by
  unfold bound_Check_Quanta at h
  refine enter Try.func71 rfl (tm := #[.agg #[iV b1.Lo, iV b1.Hi, .bool b1.Unknown], uV, uV, uV, uV, uV, uV, uV, uV, uV, uV, uV, uV, uV, uV, uV, uV, uV, uV, uV, uV, uV, uV, uV, uV, uV, uV, uV, uV, uV, uV, uV, uV, uV, uV, uV, uV]) (by kernel_rfl) ?_
  intro B hret hnor hnp
  refine wp_seq_k (fun K2 hK3 => ?_)
  refine wp_region_lit ?_
  refine seqK rfl (does_box (cs := #[.int .i64 b1.Lo, .int .i64 b1.Hi, .bool b1.Unknown]) rfl (by kernel_rfl : _ = Value.agg #[.int .i64 b1.Lo, .int .i64 b1.Hi, .bool b1.Unknown]) rfl HS ?_)
  intro b4 W5 HS6
  refine seqS1 (a' := ⟨#[.agg #[iV b1.Lo, iV b1.Hi, .bool b1.Unknown], .pointer (some ⟨b4, 0, none⟩), iV 0, uV, uV, uV, uV, uV, uV, uV, uV, uV, uV, uV, uV, uV, uV, uV, uV, uV, uV, uV, uV, uV, uV, uV, uV, uV, uV, uV, uV, uV, uV, uV, uV, uV, uV], []⟩) (by kernel_rfl) ?_
  refine wpList_nil ?_
  refine hK3 _ _ ?_
  refine wp_seq_k (fun K8 hK9 => ?_)
  refine blockK (fun B10 hx11 hn12 hr13 ho14 hp15 => ?_)
  refine wp_seq_k (fun K17 hK18 => ?_)
  refine wp_region_lit ?_
  refine seqL1 (by kernel_rfl) ?_
  refine seqK rfl (does_run (run_load rfl Try.underlying4 rfl (by kernel_rfl : _ = Value.pointer (some ⟨b4, 2, none⟩)) (HS6.cell 2)) ?_)
  refine seqS1 (a' := ⟨#[.agg #[iV b1.Lo, iV b1.Hi, .bool b1.Unknown], .pointer (some ⟨b4, 0, none⟩), iV 0, uV, .pointer (some ⟨b4, 2, none⟩), .bool b1.Unknown, .bool b1.Unknown, uV, uV, uV, uV, uV, uV, uV, uV, uV, uV, uV, uV, uV, uV, uV, uV, uV, uV, uV, uV, uV, uV, uV, uV, uV, uV, uV, uV, uV, uV], []⟩) (by kernel_rfl) ?_
  have hq_ := ite_some h; clear h; rcases hq_ with ⟨c19, h⟩ | ⟨c19, h⟩
  · have c19 : b1.Unknown = true := c19
    refine seqRwI 5 (x := b1.Unknown) (v := true) (by kernel_rfl) c19 ?_
    refine seqRwI 6 (x := b1.Unknown) (v := true) (by kernel_rfl) c19 ?_
    refine seqL1 (by kernel_rfl) ?_
    refine seqG (by kernel_rfl) (does_run (run_load rfl Try.underlying42 rfl (by kernel_rfl : _ = Value.pointer (some ⟨b4, 0, none⟩)) (HS6.cell 0)) ?_)
    refine seqS2 (a' := ⟨#[.agg #[iV b1.Lo, iV b1.Hi, .bool b1.Unknown], .pointer (some ⟨b4, 0, none⟩), iV 0, uV, .pointer (some ⟨b4, 2, none⟩), .bool true, .bool true, .pointer (some ⟨b4, 0, none⟩), iV b1.Lo, .bool (b1.Lo != 0), .bool (b1.Lo != 0), uV, uV, uV, uV, uV, uV, uV, uV, uV, uV, uV, uV, uV, uV, uV, uV, uV, uV, uV, uV, uV, uV, uV, uV, uV, uV], []⟩) (by kernel_rfl) ?_
    have hq_ := ite_some h; clear h; rcases hq_ with ⟨c20, h⟩ | ⟨c20, h⟩
    · have c20 : b1.Lo ≠ 0 := c20
      refine seqRwI 9 (x := (b1.Lo != 0)) (v := true) (by kernel_rfl) (bne_iff_ne.mpr c20) ?_
      refine seqRwI 10 (x := (b1.Lo != 0)) (v := true) (by kernel_rfl) (bne_iff_ne.mpr c20) ?_
      refine seqS6 (a' := ⟨#[.agg #[iV b1.Lo, iV b1.Hi, .bool b1.Unknown], .pointer (some ⟨b4, 0, none⟩), iV 0, .bool true, .pointer (some ⟨b4, 2, none⟩), .bool true, .bool true, .pointer (some ⟨b4, 0, none⟩), iV b1.Lo, .bool true, .bool true, uV, uV, uV, .bool true, .bool true, uV, uV, uV, uV, uV, uV, uV, uV, uV, uV, uV, uV, uV, uV, uV, uV, uV, uV, uV, uV, uV], []⟩) (by kernel_rfl) ?_
      refine wpList_nil ?_
      refine hK18 _ _ ?_
      refine condT (by kernel_rfl) ?_
      refine wp_seq_k (fun K21 hK22 => ?_)
      refine wp_region_lit ?_
      refine seqS1 (a' := ⟨#[.agg #[iV b1.Lo, iV b1.Hi, .bool b1.Unknown], .pointer (some ⟨b4, 0, none⟩), iV 3, .bool true, .pointer (some ⟨b4, 2, none⟩), .bool true, .bool true, .pointer (some ⟨b4, 0, none⟩), iV b1.Lo, .bool true, .bool true, uV, uV, uV, .bool true, .bool true, uV, uV, uV, uV, uV, uV, uV, uV, uV, uV, uV, uV, uV, uV, uV, uV, uV, uV, uV, uV, uV], []⟩) (by kernel_rfl) ?_
      refine wpList_nil ?_
      refine hK22 _ _ ?_
      refine wp_ret ?_
      refine hr13 _ _ ?_
      refine hret _ _ ?_
      refine ends_still (v := Value.int .i64 3) (by kernel_rfl) (by kernel_rfl) ?_
      have HS61 := HS6.drop
      injection h with h
      subst h
      exact ⟨f, rfl, FM.le.refl _, HS61⟩
    · have c20 : ¬ (b1.Lo ≠ 0) := c20
      refine seqRwI 9 (x := (b1.Lo != 0)) (v := false) (by kernel_rfl) (bne_eq_false_iff_eq.mpr (Decidable.of_not_not c20)) ?_
      refine seqRwI 10 (x := (b1.Lo != 0)) (v := false) (by kernel_rfl) (bne_eq_false_iff_eq.mpr (Decidable.of_not_not c20)) ?_
      refine seqL1 (by kernel_rfl) ?_
      refine seqG (by kernel_rfl) (does_run (run_load rfl Try.underlying42 rfl (by kernel_rfl : _ = Value.pointer (some ⟨b4, 1, none⟩)) (HS6.cell 1)) ?_)
      refine seqS4 (a' := ⟨#[.agg #[iV b1.Lo, iV b1.Hi, .bool b1.Unknown], .pointer (some ⟨b4, 0, none⟩), iV 0, .bool (b1.Hi != 0), .pointer (some ⟨b4, 2, none⟩), .bool true, .bool true, .pointer (some ⟨b4, 0, none⟩), iV b1.Lo, .bool false, .bool false, .pointer (some ⟨b4, 1, none⟩), iV b1.Hi, .bool (b1.Hi != 0), .bool (b1.Hi != 0), .bool (b1.Hi != 0), uV, uV, uV, uV, uV, uV, uV, uV, uV, uV, uV, uV, uV, uV, uV, uV, uV, uV, uV, uV, uV], []⟩) (by kernel_rfl) ?_
      refine wpList_nil ?_
      refine hK18 _ _ ?_
      have hq_ := ite_some h; clear h; rcases hq_ with ⟨c24, h⟩ | ⟨c24, h⟩
      · have c24 : b1.Hi ≠ 0 := c24
        refine wpRwI 3 (x := (b1.Hi != 0)) (v := true) (by kernel_rfl) (bne_iff_ne.mpr c24) ?_
        refine wpRwI 13 (x := (b1.Hi != 0)) (v := true) (by kernel_rfl) (bne_iff_ne.mpr c24) ?_
        refine wpRwI 14 (x := (b1.Hi != 0)) (v := true) (by kernel_rfl) (bne_iff_ne.mpr c24) ?_
        refine wpRwI 15 (x := (b1.Hi != 0)) (v := true) (by kernel_rfl) (bne_iff_ne.mpr c24) ?_
        refine condT (by kernel_rfl) ?_
        refine wp_seq_k (fun K25 hK26 => ?_)
        refine wp_region_lit ?_
        refine seqS1 (a' := ⟨#[.agg #[iV b1.Lo, iV b1.Hi, .bool b1.Unknown], .pointer (some ⟨b4, 0, none⟩), iV 3, .bool true, .pointer (some ⟨b4, 2, none⟩), .bool true, .bool true, .pointer (some ⟨b4, 0, none⟩), iV b1.Lo, .bool false, .bool false, .pointer (some ⟨b4, 1, none⟩), iV b1.Hi, .bool true, .bool true, .bool true, uV, uV, uV, uV, uV, uV, uV, uV, uV, uV, uV, uV, uV, uV, uV, uV, uV, uV, uV, uV, uV], []⟩) (by kernel_rfl) ?_
        refine wpList_nil ?_
        refine hK26 _ _ ?_
        refine wp_ret ?_
        refine hr13 _ _ ?_
        refine hret _ _ ?_
        refine ends_still (v := Value.int .i64 3) (by kernel_rfl) (by kernel_rfl) ?_
        have HS62 := HS6.drop
        injection h with h
        subst h
        exact ⟨f, rfl, FM.le.refl _, HS62⟩
      · have c24 : ¬ (b1.Hi ≠ 0) := c24
        refine wpRwI 3 (x := (b1.Hi != 0)) (v := false) (by kernel_rfl) (bne_eq_false_iff_eq.mpr (Decidable.of_not_not c24)) ?_
        refine wpRwI 13 (x := (b1.Hi != 0)) (v := false) (by kernel_rfl) (bne_eq_false_iff_eq.mpr (Decidable.of_not_not c24)) ?_
        refine wpRwI 14 (x := (b1.Hi != 0)) (v := false) (by kernel_rfl) (bne_eq_false_iff_eq.mpr (Decidable.of_not_not c24)) ?_
        refine wpRwI 15 (x := (b1.Hi != 0)) (v := false) (by kernel_rfl) (bne_eq_false_iff_eq.mpr (Decidable.of_not_not c24)) ?_
        refine condF (by kernel_rfl) ?_
        refine wp_seq_k (fun K27 hK28 => ?_)
        refine wp_region_lit ?_
        refine seqL1 (by kernel_rfl) ?_
        refine seqK rfl (does_run (run_load rfl Try.underlying42 rfl (by kernel_rfl : _ = Value.pointer (some ⟨b4, 0, none⟩)) (HS6.cell 0)) ?_)
        refine seqL1 (by kernel_rfl) ?_
        refine seqK rfl (does_run (run_load rfl Try.underlying42 rfl (by kernel_rfl : _ = Value.pointer (some ⟨b4, 1, none⟩)) (HS6.cell 1)) ?_)
        refine seqS3 (a' := ⟨#[.agg #[iV b1.Lo, iV b1.Hi, .bool b1.Unknown], .pointer (some ⟨b4, 0, none⟩), iV 0, .bool false, .pointer (some ⟨b4, 2, none⟩), .bool true, .bool true, .pointer (some ⟨b4, 0, none⟩), iV b1.Lo, .bool false, .bool false, .pointer (some ⟨b4, 1, none⟩), iV b1.Hi, .bool false, .bool false, .bool false, uV, .pointer (some ⟨b4, 0, none⟩), iV b1.Lo, .pointer (some ⟨b4, 1, none⟩), iV b1.Hi, iV (mn b1.Lo b1.Hi), .bool (decide ((mn b1.Lo b1.Hi) < (-1152921504606846976))), .bool (decide ((mn b1.Lo b1.Hi) < (-1152921504606846976))), uV, uV, uV, uV, uV, uV, uV, uV, uV, uV, uV, uV, uV], []⟩) (by kernel_rfl) ?_
        have hq_ := ite_some h; clear h; rcases hq_ with ⟨c29, h⟩ | ⟨c29, h⟩
        · have c29 : (mn b1.Lo b1.Hi) < (-1152921504606846976) := c29
          refine seqRwI 22 (x := (decide ((mn b1.Lo b1.Hi) < (-1152921504606846976)))) (v := true) (by kernel_rfl) (decide_eq_true c29) ?_
          refine seqRwI 23 (x := (decide ((mn b1.Lo b1.Hi) < (-1152921504606846976)))) (v := true) (by kernel_rfl) (decide_eq_true c29) ?_
          refine seqS8 (a' := ⟨#[.agg #[iV b1.Lo, iV b1.Hi, .bool b1.Unknown], .pointer (some ⟨b4, 0, none⟩), iV 0, .bool false, .pointer (some ⟨b4, 2, none⟩), .bool true, .bool true, .pointer (some ⟨b4, 0, none⟩), iV b1.Lo, .bool false, .bool false, .pointer (some ⟨b4, 1, none⟩), iV b1.Hi, .bool false, .bool false, .bool false, .bool true, .pointer (some ⟨b4, 0, none⟩), iV b1.Lo, .pointer (some ⟨b4, 1, none⟩), iV b1.Hi, iV (mn b1.Lo b1.Hi), .bool true, .bool true, uV, uV, uV, uV, uV, uV, .bool true, uV, uV, uV, uV, uV, uV], []⟩) (by kernel_rfl) ?_
          refine wpList_nil ?_
          refine hK28 _ _ ?_
          refine condT (by kernel_rfl) ?_
          refine wp_seq_k (fun K30 hK31 => ?_)
          refine wp_region_lit ?_
          refine seqS1 (a' := ⟨#[.agg #[iV b1.Lo, iV b1.Hi, .bool b1.Unknown], .pointer (some ⟨b4, 0, none⟩), iV 4, .bool false, .pointer (some ⟨b4, 2, none⟩), .bool true, .bool true, .pointer (some ⟨b4, 0, none⟩), iV b1.Lo, .bool false, .bool false, .pointer (some ⟨b4, 1, none⟩), iV b1.Hi, .bool false, .bool false, .bool false, .bool true, .pointer (some ⟨b4, 0, none⟩), iV b1.Lo, .pointer (some ⟨b4, 1, none⟩), iV b1.Hi, iV (mn b1.Lo b1.Hi), .bool true, .bool true, uV, uV, uV, uV, uV, uV, .bool true, uV, uV, uV, uV, uV, uV], []⟩) (by kernel_rfl) ?_
          refine wpList_nil ?_
          refine hK31 _ _ ?_
          refine wp_ret ?_
          refine hr13 _ _ ?_
          refine hret _ _ ?_
          refine ends_still (v := Value.int .i64 4) (by kernel_rfl) (by kernel_rfl) ?_
          have HS63 := HS6.drop
          injection h with h
          subst h
          exact ⟨f, rfl, FM.le.refl _, HS63⟩
        · have c29 : ¬ ((mn b1.Lo b1.Hi) < (-1152921504606846976)) := c29
          refine seqRwI 22 (x := (decide ((mn b1.Lo b1.Hi) < (-1152921504606846976)))) (v := false) (by kernel_rfl) (decide_eq_false c29) ?_
          refine seqRwI 23 (x := (decide ((mn b1.Lo b1.Hi) < (-1152921504606846976)))) (v := false) (by kernel_rfl) (decide_eq_false c29) ?_
          refine seqL1 (by kernel_rfl) ?_
          refine seqG (by kernel_rfl) (does_run (run_load rfl Try.underlying42 rfl (by kernel_rfl : _ = Value.pointer (some ⟨b4, 0, none⟩)) (HS6.cell 0)) ?_)
          refine seqL1 (by kernel_rfl) ?_
          refine seqG (by kernel_rfl) (does_run (run_load rfl Try.underlying42 rfl (by kernel_rfl : _ = Value.pointer (some ⟨b4, 1, none⟩)) (HS6.cell 1)) ?_)
          refine seqS4 (a' := ⟨#[.agg #[iV b1.Lo, iV b1.Hi, .bool b1.Unknown], .pointer (some ⟨b4, 0, none⟩), iV 0, .bool false, .pointer (some ⟨b4, 2, none⟩), .bool true, .bool true, .pointer (some ⟨b4, 0, none⟩), iV b1.Lo, .bool false, .bool false, .pointer (some ⟨b4, 1, none⟩), iV b1.Hi, .bool false, .bool false, .bool false, .bool (decide ((mx b1.Lo b1.Hi) > 1152921504606846976)), .pointer (some ⟨b4, 0, none⟩), iV b1.Lo, .pointer (some ⟨b4, 1, none⟩), iV b1.Hi, iV (mn b1.Lo b1.Hi), .bool false, .bool false, .pointer (some ⟨b4, 0, none⟩), iV b1.Lo, .pointer (some ⟨b4, 1, none⟩), iV b1.Hi, iV (mx b1.Lo b1.Hi), .bool (decide ((mx b1.Lo b1.Hi) > 1152921504606846976)), .bool (decide ((mx b1.Lo b1.Hi) > 1152921504606846976)), uV, uV, uV, uV, uV, uV], []⟩) (by kernel_rfl) ?_
          refine wpList_nil ?_
          refine hK28 _ _ ?_
          have hq_ := ite_some h; clear h; rcases hq_ with ⟨c33, h⟩ | ⟨c33, h⟩
          · have c33 : (mx b1.Lo b1.Hi) > 1152921504606846976 := c33
            refine wpRwI 16 (x := (decide ((mx b1.Lo b1.Hi) > 1152921504606846976))) (v := true) (by kernel_rfl) (decide_eq_true c33) ?_
            refine wpRwI 29 (x := (decide ((mx b1.Lo b1.Hi) > 1152921504606846976))) (v := true) (by kernel_rfl) (decide_eq_true c33) ?_
            refine wpRwI 30 (x := (decide ((mx b1.Lo b1.Hi) > 1152921504606846976))) (v := true) (by kernel_rfl) (decide_eq_true c33) ?_
            refine condT (by kernel_rfl) ?_
            refine wp_seq_k (fun K34 hK35 => ?_)
            refine wp_region_lit ?_
            refine seqS1 (a' := ⟨#[.agg #[iV b1.Lo, iV b1.Hi, .bool b1.Unknown], .pointer (some ⟨b4, 0, none⟩), iV 4, .bool false, .pointer (some ⟨b4, 2, none⟩), .bool true, .bool true, .pointer (some ⟨b4, 0, none⟩), iV b1.Lo, .bool false, .bool false, .pointer (some ⟨b4, 1, none⟩), iV b1.Hi, .bool false, .bool false, .bool false, .bool true, .pointer (some ⟨b4, 0, none⟩), iV b1.Lo, .pointer (some ⟨b4, 1, none⟩), iV b1.Hi, iV (mn b1.Lo b1.Hi), .bool false, .bool false, .pointer (some ⟨b4, 0, none⟩), iV b1.Lo, .pointer (some ⟨b4, 1, none⟩), iV b1.Hi, iV (mx b1.Lo b1.Hi), .bool true, .bool true, uV, uV, uV, uV, uV, uV], []⟩) (by kernel_rfl) ?_
            refine wpList_nil ?_
            refine hK35 _ _ ?_
            refine wp_ret ?_
            refine hr13 _ _ ?_
            refine hret _ _ ?_
            refine ends_still (v := Value.int .i64 4) (by kernel_rfl) (by kernel_rfl) ?_
            have HS64 := HS6.drop
            injection h with h
            subst h
            exact ⟨f, rfl, FM.le.refl _, HS64⟩
          · have c33 : ¬ ((mx b1.Lo b1.Hi) > 1152921504606846976) := c33
            refine wpRwI 16 (x := (decide ((mx b1.Lo b1.Hi) > 1152921504606846976))) (v := false) (by kernel_rfl) (decide_eq_false c33) ?_
            refine wpRwI 29 (x := (decide ((mx b1.Lo b1.Hi) > 1152921504606846976))) (v := false) (by kernel_rfl) (decide_eq_false c33) ?_
            refine wpRwI 30 (x := (decide ((mx b1.Lo b1.Hi) > 1152921504606846976))) (v := false) (by kernel_rfl) (decide_eq_false c33) ?_
            refine condF (by kernel_rfl) ?_
            refine wp_seq_k (fun K36 hK37 => ?_)
            refine wp_region_lit ?_
            refine seqL1 (by kernel_rfl) ?_
            refine seqK rfl (does_run (run_load rfl Try.underlying42 rfl (by kernel_rfl : _ = Value.pointer (some ⟨b4, 0, none⟩)) (HS6.cell 0)) ?_)
            refine seqL1 (by kernel_rfl) ?_
            refine seqK rfl (does_run (run_load rfl Try.underlying42 rfl (by kernel_rfl : _ = Value.pointer (some ⟨b4, 1, none⟩)) (HS6.cell 1)) ?_)
            refine seqS2 (a' := ⟨#[.agg #[iV b1.Lo, iV b1.Hi, .bool b1.Unknown], .pointer (some ⟨b4, 0, none⟩), iV 0, .bool false, .pointer (some ⟨b4, 2, none⟩), .bool true, .bool true, .pointer (some ⟨b4, 0, none⟩), iV b1.Lo, .bool false, .bool false, .pointer (some ⟨b4, 1, none⟩), iV b1.Hi, .bool false, .bool false, .bool false, .bool false, .pointer (some ⟨b4, 0, none⟩), iV b1.Lo, .pointer (some ⟨b4, 1, none⟩), iV b1.Hi, iV (mn b1.Lo b1.Hi), .bool false, .bool false, .pointer (some ⟨b4, 0, none⟩), iV b1.Lo, .pointer (some ⟨b4, 1, none⟩), iV b1.Hi, iV (mx b1.Lo b1.Hi), .bool false, .bool false, .bool (decide (b1.Lo > b1.Hi)), .pointer (some ⟨b4, 0, none⟩), iV b1.Lo, .pointer (some ⟨b4, 1, none⟩), iV b1.Hi, .bool (decide (b1.Lo > b1.Hi))], []⟩) (by kernel_rfl) ?_
            refine wpList_nil ?_
            refine hK37 _ _ ?_
            have hq_ := ite_some h; clear h; rcases hq_ with ⟨c39, h⟩ | ⟨c39, h⟩
            · have c39 : b1.Lo > b1.Hi := c39
              refine wpRwI 31 (x := (decide (b1.Lo > b1.Hi))) (v := true) (by kernel_rfl) (decide_eq_true c39) ?_
              refine wpRwI 36 (x := (decide (b1.Lo > b1.Hi))) (v := true) (by kernel_rfl) (decide_eq_true c39) ?_
              refine condT (by kernel_rfl) ?_
              refine wp_seq_k (fun K40 hK41 => ?_)
              refine wp_region_lit ?_
              refine seqS1 (a' := ⟨#[.agg #[iV b1.Lo, iV b1.Hi, .bool b1.Unknown], .pointer (some ⟨b4, 0, none⟩), iV 11, .bool false, .pointer (some ⟨b4, 2, none⟩), .bool true, .bool true, .pointer (some ⟨b4, 0, none⟩), iV b1.Lo, .bool false, .bool false, .pointer (some ⟨b4, 1, none⟩), iV b1.Hi, .bool false, .bool false, .bool false, .bool false, .pointer (some ⟨b4, 0, none⟩), iV b1.Lo, .pointer (some ⟨b4, 1, none⟩), iV b1.Hi, iV (mn b1.Lo b1.Hi), .bool false, .bool false, .pointer (some ⟨b4, 0, none⟩), iV b1.Lo, .pointer (some ⟨b4, 1, none⟩), iV b1.Hi, iV (mx b1.Lo b1.Hi), .bool false, .bool false, .bool true, .pointer (some ⟨b4, 0, none⟩), iV b1.Lo, .pointer (some ⟨b4, 1, none⟩), iV b1.Hi, .bool true], []⟩) (by kernel_rfl) ?_
              refine wpList_nil ?_
              refine hK41 _ _ ?_
              refine wp_ret ?_
              refine hr13 _ _ ?_
              refine hret _ _ ?_
              refine ends_still (v := Value.int .i64 11) (by kernel_rfl) (by kernel_rfl) ?_
              have HS65 := HS6.drop
              injection h with h
              subst h
              exact ⟨f, rfl, FM.le.refl _, HS65⟩
            · have c39 : ¬ (b1.Lo > b1.Hi) := c39
              refine wpRwI 31 (x := (decide (b1.Lo > b1.Hi))) (v := false) (by kernel_rfl) (decide_eq_false c39) ?_
              refine wpRwI 36 (x := (decide (b1.Lo > b1.Hi))) (v := false) (by kernel_rfl) (decide_eq_false c39) ?_
              refine condF (by kernel_rfl) ?_
              refine wp_skip ?_
              refine hn12 _ _ ?_
              refine hK9 _ _ ?_
              refine wp_seq_k (fun K57 hK58 => ?_)
              refine wp_region_lit ?_
              refine seqS1 (a' := ⟨#[.agg #[iV b1.Lo, iV b1.Hi, .bool b1.Unknown], .pointer (some ⟨b4, 0, none⟩), iV 0, .bool false, .pointer (some ⟨b4, 2, none⟩), .bool true, .bool true, .pointer (some ⟨b4, 0, none⟩), iV b1.Lo, .bool false, .bool false, .pointer (some ⟨b4, 1, none⟩), iV b1.Hi, .bool false, .bool false, .bool false, .bool false, .pointer (some ⟨b4, 0, none⟩), iV b1.Lo, .pointer (some ⟨b4, 1, none⟩), iV b1.Hi, iV (mn b1.Lo b1.Hi), .bool false, .bool false, .pointer (some ⟨b4, 0, none⟩), iV b1.Lo, .pointer (some ⟨b4, 1, none⟩), iV b1.Hi, iV (mx b1.Lo b1.Hi), .bool false, .bool false, .bool false, .pointer (some ⟨b4, 0, none⟩), iV b1.Lo, .pointer (some ⟨b4, 1, none⟩), iV b1.Hi, .bool false], []⟩) (by kernel_rfl) ?_
              refine wpList_nil ?_
              refine hK58 _ _ ?_
              refine wp_ret ?_
              refine hret _ _ ?_
              refine ends_still (v := Value.int .i64 0) (by kernel_rfl) (by kernel_rfl) ?_
              have HS69 := HS6.drop
              injection h with h
              subst h
              exact ⟨f, rfl, FM.le.refl _, HS69⟩
  · have c19 : ¬ (b1.Unknown = true) := c19
    refine seqRwI 5 (x := b1.Unknown) (v := false) (by kernel_rfl) (Bool.eq_false_iff.mpr c19) ?_
    refine seqRwI 6 (x := b1.Unknown) (v := false) (by kernel_rfl) (Bool.eq_false_iff.mpr c19) ?_
    refine seqS10 (a' := ⟨#[.agg #[iV b1.Lo, iV b1.Hi, .bool b1.Unknown], .pointer (some ⟨b4, 0, none⟩), iV 0, .bool false, .pointer (some ⟨b4, 2, none⟩), .bool false, .bool false, uV, uV, uV, uV, uV, uV, uV, uV, .bool false, uV, uV, uV, uV, uV, uV, uV, uV, uV, uV, uV, uV, uV, uV, uV, uV, uV, uV, uV, uV, uV], []⟩) (by kernel_rfl) ?_
    refine wpList_nil ?_
    refine hK18 _ _ ?_
    refine condF (by kernel_rfl) ?_
    refine wp_seq_k (fun K42 hK43 => ?_)
    refine wp_region_lit ?_
    refine seqL1 (by kernel_rfl) ?_
    refine seqK rfl (does_run (run_load rfl Try.underlying42 rfl (by kernel_rfl : _ = Value.pointer (some ⟨b4, 0, none⟩)) (HS6.cell 0)) ?_)
    refine seqL1 (by kernel_rfl) ?_
    refine seqK rfl (does_run (run_load rfl Try.underlying42 rfl (by kernel_rfl : _ = Value.pointer (some ⟨b4, 1, none⟩)) (HS6.cell 1)) ?_)
    refine seqS3 (a' := ⟨#[.agg #[iV b1.Lo, iV b1.Hi, .bool b1.Unknown], .pointer (some ⟨b4, 0, none⟩), iV 0, .bool false, .pointer (some ⟨b4, 2, none⟩), .bool false, .bool false, uV, uV, uV, uV, uV, uV, uV, uV, .bool false, uV, .pointer (some ⟨b4, 0, none⟩), iV b1.Lo, .pointer (some ⟨b4, 1, none⟩), iV b1.Hi, iV (mn b1.Lo b1.Hi), .bool (decide ((mn b1.Lo b1.Hi) < (-1152921504606846976))), .bool (decide ((mn b1.Lo b1.Hi) < (-1152921504606846976))), uV, uV, uV, uV, uV, uV, uV, uV, uV, uV, uV, uV, uV], []⟩) (by kernel_rfl) ?_
    have hq_ := ite_some h; clear h; rcases hq_ with ⟨c44, h⟩ | ⟨c44, h⟩
    · have c44 : (mn b1.Lo b1.Hi) < (-1152921504606846976) := c44
      refine seqRwI 22 (x := (decide ((mn b1.Lo b1.Hi) < (-1152921504606846976)))) (v := true) (by kernel_rfl) (decide_eq_true c44) ?_
      refine seqRwI 23 (x := (decide ((mn b1.Lo b1.Hi) < (-1152921504606846976)))) (v := true) (by kernel_rfl) (decide_eq_true c44) ?_
      refine seqS8 (a' := ⟨#[.agg #[iV b1.Lo, iV b1.Hi, .bool b1.Unknown], .pointer (some ⟨b4, 0, none⟩), iV 0, .bool false, .pointer (some ⟨b4, 2, none⟩), .bool false, .bool false, uV, uV, uV, uV, uV, uV, uV, uV, .bool false, .bool true, .pointer (some ⟨b4, 0, none⟩), iV b1.Lo, .pointer (some ⟨b4, 1, none⟩), iV b1.Hi, iV (mn b1.Lo b1.Hi), .bool true, .bool true, uV, uV, uV, uV, uV, uV, .bool true, uV, uV, uV, uV, uV, uV], []⟩) (by kernel_rfl) ?_
      refine wpList_nil ?_
      refine hK43 _ _ ?_
      refine condT (by kernel_rfl) ?_
      refine wp_seq_k (fun K45 hK46 => ?_)
      refine wp_region_lit ?_
      refine seqS1 (a' := ⟨#[.agg #[iV b1.Lo, iV b1.Hi, .bool b1.Unknown], .pointer (some ⟨b4, 0, none⟩), iV 4, .bool false, .pointer (some ⟨b4, 2, none⟩), .bool false, .bool false, uV, uV, uV, uV, uV, uV, uV, uV, .bool false, .bool true, .pointer (some ⟨b4, 0, none⟩), iV b1.Lo, .pointer (some ⟨b4, 1, none⟩), iV b1.Hi, iV (mn b1.Lo b1.Hi), .bool true, .bool true, uV, uV, uV, uV, uV, uV, .bool true, uV, uV, uV, uV, uV, uV], []⟩) (by kernel_rfl) ?_
      refine wpList_nil ?_
      refine hK46 _ _ ?_
      refine wp_ret ?_
      refine hr13 _ _ ?_
      refine hret _ _ ?_
      refine ends_still (v := Value.int .i64 4) (by kernel_rfl) (by kernel_rfl) ?_
      have HS66 := HS6.drop
      injection h with h
      subst h
      exact ⟨f, rfl, FM.le.refl _, HS66⟩
    · have c44 : ¬ ((mn b1.Lo b1.Hi) < (-1152921504606846976)) := c44
      refine seqRwI 22 (x := (decide ((mn b1.Lo b1.Hi) < (-1152921504606846976)))) (v := false) (by kernel_rfl) (decide_eq_false c44) ?_
      refine seqRwI 23 (x := (decide ((mn b1.Lo b1.Hi) < (-1152921504606846976)))) (v := false) (by kernel_rfl) (decide_eq_false c44) ?_
      refine seqL1 (by kernel_rfl) ?_
      refine seqG (by kernel_rfl) (does_run (run_load rfl Try.underlying42 rfl (by kernel_rfl : _ = Value.pointer (some ⟨b4, 0, none⟩)) (HS6.cell 0)) ?_)
      refine seqL1 (by kernel_rfl) ?_
      refine seqG (by kernel_rfl) (does_run (run_load rfl Try.underlying42 rfl (by kernel_rfl : _ = Value.pointer (some ⟨b4, 1, none⟩)) (HS6.cell 1)) ?_)
      refine seqS4 (a' := ⟨#[.agg #[iV b1.Lo, iV b1.Hi, .bool b1.Unknown], .pointer (some ⟨b4, 0, none⟩), iV 0, .bool false, .pointer (some ⟨b4, 2, none⟩), .bool false, .bool false, uV, uV, uV, uV, uV, uV, uV, uV, .bool false, .bool (decide ((mx b1.Lo b1.Hi) > 1152921504606846976)), .pointer (some ⟨b4, 0, none⟩), iV b1.Lo, .pointer (some ⟨b4, 1, none⟩), iV b1.Hi, iV (mn b1.Lo b1.Hi), .bool false, .bool false, .pointer (some ⟨b4, 0, none⟩), iV b1.Lo, .pointer (some ⟨b4, 1, none⟩), iV b1.Hi, iV (mx b1.Lo b1.Hi), .bool (decide ((mx b1.Lo b1.Hi) > 1152921504606846976)), .bool (decide ((mx b1.Lo b1.Hi) > 1152921504606846976)), uV, uV, uV, uV, uV, uV], []⟩) (by kernel_rfl) ?_
      refine wpList_nil ?_
      refine hK43 _ _ ?_
      have hq_ := ite_some h; clear h; rcases hq_ with ⟨c48, h⟩ | ⟨c48, h⟩
      · have c48 : (mx b1.Lo b1.Hi) > 1152921504606846976 := c48
        refine wpRwI 16 (x := (decide ((mx b1.Lo b1.Hi) > 1152921504606846976))) (v := true) (by kernel_rfl) (decide_eq_true c48) ?_
        refine wpRwI 29 (x := (decide ((mx b1.Lo b1.Hi) > 1152921504606846976))) (v := true) (by kernel_rfl) (decide_eq_true c48) ?_
        refine wpRwI 30 (x := (decide ((mx b1.Lo b1.Hi) > 1152921504606846976))) (v := true) (by kernel_rfl) (decide_eq_true c48) ?_
        refine condT (by kernel_rfl) ?_
        refine wp_seq_k (fun K49 hK50 => ?_)
        refine wp_region_lit ?_
        refine seqS1 (a' := ⟨#[.agg #[iV b1.Lo, iV b1.Hi, .bool b1.Unknown], .pointer (some ⟨b4, 0, none⟩), iV 4, .bool false, .pointer (some ⟨b4, 2, none⟩), .bool false, .bool false, uV, uV, uV, uV, uV, uV, uV, uV, .bool false, .bool true, .pointer (some ⟨b4, 0, none⟩), iV b1.Lo, .pointer (some ⟨b4, 1, none⟩), iV b1.Hi, iV (mn b1.Lo b1.Hi), .bool false, .bool false, .pointer (some ⟨b4, 0, none⟩), iV b1.Lo, .pointer (some ⟨b4, 1, none⟩), iV b1.Hi, iV (mx b1.Lo b1.Hi), .bool true, .bool true, uV, uV, uV, uV, uV, uV], []⟩) (by kernel_rfl) ?_
        refine wpList_nil ?_
        refine hK50 _ _ ?_
        refine wp_ret ?_
        refine hr13 _ _ ?_
        refine hret _ _ ?_
        refine ends_still (v := Value.int .i64 4) (by kernel_rfl) (by kernel_rfl) ?_
        have HS67 := HS6.drop
        injection h with h
        subst h
        exact ⟨f, rfl, FM.le.refl _, HS67⟩
      · have c48 : ¬ ((mx b1.Lo b1.Hi) > 1152921504606846976) := c48
        refine wpRwI 16 (x := (decide ((mx b1.Lo b1.Hi) > 1152921504606846976))) (v := false) (by kernel_rfl) (decide_eq_false c48) ?_
        refine wpRwI 29 (x := (decide ((mx b1.Lo b1.Hi) > 1152921504606846976))) (v := false) (by kernel_rfl) (decide_eq_false c48) ?_
        refine wpRwI 30 (x := (decide ((mx b1.Lo b1.Hi) > 1152921504606846976))) (v := false) (by kernel_rfl) (decide_eq_false c48) ?_
        refine condF (by kernel_rfl) ?_
        refine wp_seq_k (fun K51 hK52 => ?_)
        refine wp_region_lit ?_
        refine seqL1 (by kernel_rfl) ?_
        refine seqK rfl (does_run (run_load rfl Try.underlying42 rfl (by kernel_rfl : _ = Value.pointer (some ⟨b4, 0, none⟩)) (HS6.cell 0)) ?_)
        refine seqL1 (by kernel_rfl) ?_
        refine seqK rfl (does_run (run_load rfl Try.underlying42 rfl (by kernel_rfl : _ = Value.pointer (some ⟨b4, 1, none⟩)) (HS6.cell 1)) ?_)
        refine seqS2 (a' := ⟨#[.agg #[iV b1.Lo, iV b1.Hi, .bool b1.Unknown], .pointer (some ⟨b4, 0, none⟩), iV 0, .bool false, .pointer (some ⟨b4, 2, none⟩), .bool false, .bool false, uV, uV, uV, uV, uV, uV, uV, uV, .bool false, .bool false, .pointer (some ⟨b4, 0, none⟩), iV b1.Lo, .pointer (some ⟨b4, 1, none⟩), iV b1.Hi, iV (mn b1.Lo b1.Hi), .bool false, .bool false, .pointer (some ⟨b4, 0, none⟩), iV b1.Lo, .pointer (some ⟨b4, 1, none⟩), iV b1.Hi, iV (mx b1.Lo b1.Hi), .bool false, .bool false, .bool (decide (b1.Lo > b1.Hi)), .pointer (some ⟨b4, 0, none⟩), iV b1.Lo, .pointer (some ⟨b4, 1, none⟩), iV b1.Hi, .bool (decide (b1.Lo > b1.Hi))], []⟩) (by kernel_rfl) ?_
        refine wpList_nil ?_
        refine hK52 _ _ ?_
        have hq_ := ite_some h; clear h; rcases hq_ with ⟨c54, h⟩ | ⟨c54, h⟩
        · have c54 : b1.Lo > b1.Hi := c54
          refine wpRwI 31 (x := (decide (b1.Lo > b1.Hi))) (v := true) (by kernel_rfl) (decide_eq_true c54) ?_
          refine wpRwI 36 (x := (decide (b1.Lo > b1.Hi))) (v := true) (by kernel_rfl) (decide_eq_true c54) ?_
          refine condT (by kernel_rfl) ?_
          refine wp_seq_k (fun K55 hK56 => ?_)
          refine wp_region_lit ?_
          refine seqS1 (a' := ⟨#[.agg #[iV b1.Lo, iV b1.Hi, .bool b1.Unknown], .pointer (some ⟨b4, 0, none⟩), iV 11, .bool false, .pointer (some ⟨b4, 2, none⟩), .bool false, .bool false, uV, uV, uV, uV, uV, uV, uV, uV, .bool false, .bool false, .pointer (some ⟨b4, 0, none⟩), iV b1.Lo, .pointer (some ⟨b4, 1, none⟩), iV b1.Hi, iV (mn b1.Lo b1.Hi), .bool false, .bool false, .pointer (some ⟨b4, 0, none⟩), iV b1.Lo, .pointer (some ⟨b4, 1, none⟩), iV b1.Hi, iV (mx b1.Lo b1.Hi), .bool false, .bool false, .bool true, .pointer (some ⟨b4, 0, none⟩), iV b1.Lo, .pointer (some ⟨b4, 1, none⟩), iV b1.Hi, .bool true], []⟩) (by kernel_rfl) ?_
          refine wpList_nil ?_
          refine hK56 _ _ ?_
          refine wp_ret ?_
          refine hr13 _ _ ?_
          refine hret _ _ ?_
          refine ends_still (v := Value.int .i64 11) (by kernel_rfl) (by kernel_rfl) ?_
          have HS68 := HS6.drop
          injection h with h
          subst h
          exact ⟨f, rfl, FM.le.refl _, HS68⟩
        · have c54 : ¬ (b1.Lo > b1.Hi) := c54
          refine wpRwI 31 (x := (decide (b1.Lo > b1.Hi))) (v := false) (by kernel_rfl) (decide_eq_false c54) ?_
          refine wpRwI 36 (x := (decide (b1.Lo > b1.Hi))) (v := false) (by kernel_rfl) (decide_eq_false c54) ?_
          refine condF (by kernel_rfl) ?_
          refine wp_skip ?_
          refine hn12 _ _ ?_
          refine hK9 _ _ ?_
          refine wp_seq_k (fun K59 hK60 => ?_)
          refine wp_region_lit ?_
          refine seqS1 (a' := ⟨#[.agg #[iV b1.Lo, iV b1.Hi, .bool b1.Unknown], .pointer (some ⟨b4, 0, none⟩), iV 0, .bool false, .pointer (some ⟨b4, 2, none⟩), .bool false, .bool false, uV, uV, uV, uV, uV, uV, uV, uV, .bool false, .bool false, .pointer (some ⟨b4, 0, none⟩), iV b1.Lo, .pointer (some ⟨b4, 1, none⟩), iV b1.Hi, iV (mn b1.Lo b1.Hi), .bool false, .bool false, .pointer (some ⟨b4, 0, none⟩), iV b1.Lo, .pointer (some ⟨b4, 1, none⟩), iV b1.Hi, iV (mx b1.Lo b1.Hi), .bool false, .bool false, .bool false, .pointer (some ⟨b4, 0, none⟩), iV b1.Lo, .pointer (some ⟨b4, 1, none⟩), iV b1.Hi, .bool false], []⟩) (by kernel_rfl) ?_
          refine wpList_nil ?_
          refine hK60 _ _ ?_
          refine wp_ret ?_
          refine hret _ _ ?_
          refine ends_still (v := Value.int .i64 0) (by kernel_rfl) (by kernel_rfl) ?_
          have HS70 := HS6.drop
          injection h with h
          subst h
          exact ⟨f, rfl, FM.le.refl _, HS70⟩

set_option maxRecDepth 100000 in
set_option maxHeartbeats 4000000 in
theorem bound_None_Quanta.calls (k : Nat)   {t w : World} {f : FM} {H : List Seg} (HS : St t w f (H)) (r1 : S_Bound) (h : bound_None_Quanta k = some r1) :
    Calls Try.prog 32 #[] w (fun e w' => ∃ (g : FM), e = .returned (Value.agg #[.int .i64 r1.Lo, .int .i64 r1.Hi, .bool r1.Unknown]) ∧ FM.le f g ∧ St t w' g (H)) := by
  unfold bound_None_Quanta at h
  refine enter Try.func32 rfl (tm := #[uV, uV]) (by kernel_rfl) ?_
  intro B hret hnor hnp
  refine wp_seq_k (fun K1 hK2 => ?_)
  refine wp_region_lit ?_
  refine seqK rfl (does_alloc (z := Value.agg #[.int .i64 0, .int .i64 0, .bool false]) (cs := #[.int .i64 0, .int .i64 0, .bool false]) rfl (by kernel_rfl) rfl HS ?_)
  intro b3 W4 HS5
  refine wpList_nil ?_
  refine hK2 _ _ ?_
  refine wp_seq_k (fun K7 hK8 => ?_)
  refine wp_region_lit ?_
  refine seqL1 (by kernel_rfl) ?_
  refine seqK rfl (does_store (n := 3) (vs := [.int .i64 0, .int .i64 0, .bool true]) (cs' := #[.int .i64 0, .int .i64 0, .bool true]) rfl (by kernel_rfl) (by kernel_rfl : _ = Value.pointer (some ⟨b3, 0, none⟩)) (by kernel_rfl : _ = Value.agg #[.int .i64 0, .int .i64 0, .bool true]) rfl rfl (by intro u_ hu_; simp only [List.mem_cons, List.not_mem_nil, or_false] at hu_; rcases hu_ with rfl | rfl | rfl <;> rfl) HS5 (Nat.le_of_ble_eq_true rfl) (by kernel_rfl) ?_)
  intro W9 HS10
  refine wpList_nil ?_
  refine hK8 _ _ ?_
  refine wp_ret ?_
  refine hret _ _ ?_
  refine ends (v := Value.agg #[.int .i64 0, .int .i64 0, .bool true]) (results1 (q1 := .cell 0 44) (by kernel_rfl) (resN (n := 3) (cs := [.int .i64 0, .int .i64 0, .bool true]) (by kernel_rfl : _ = Value.pointer (some ⟨b3, 0, none⟩)) Try.underlying44 rfl (by kernel_rfl) rfl (HS10.cells 0 3 _ rfl))) (by kernel_rfl) ?_
  have HS11 := HS10.drop
  injection h with h
  subst h
  exact ⟨f, rfl, FM.le.refl _, HS11⟩

set_option maxRecDepth 100000 in
set_option maxHeartbeats 4000000 in
theorem bound_Norm_Quanta.calls (k : Nat)  (b1 : S_Bound) {t w : World} {f : FM} {H : List Seg} (HS : St t w f (H)) (r1 : S_Bound) (h : bound_Norm_Quanta k b1 = some r1) :
    Calls Try.prog 45 #[.agg #[.int .i64 b1.Lo, .int .i64 b1.Hi, .bool b1.Unknown]] w (fun e w' => ∃ (g : FM), e = .returned (Value.agg #[.int .i64 r1.Lo, .int .i64 r1.Hi, .bool r1.Unknown]) ∧ FM.le f g ∧ St t w' g (H)) := by
  unfold bound_Norm_Quanta at h
  refine enter Try.func45 rfl (tm := #[.agg #[iV b1.Lo, iV b1.Hi, .bool b1.Unknown], uV, uV, uV, uV, uV, uV, uV]) (by kernel_rfl) ?_
  intro B hret hnor hnp
  refine wp_seq_k (fun K2 hK3 => ?_)
  refine wp_region_lit ?_
  refine seqK rfl (does_box (cs := #[.int .i64 b1.Lo, .int .i64 b1.Hi, .bool b1.Unknown]) rfl (by kernel_rfl : _ = Value.agg #[.int .i64 b1.Lo, .int .i64 b1.Hi, .bool b1.Unknown]) rfl HS ?_)
  intro b4 W5 HS6
  refine seqK rfl (does_alloc (z := Value.agg #[.int .i64 0, .int .i64 0, .bool false]) (cs := #[.int .i64 0, .int .i64 0, .bool false]) rfl (by kernel_rfl) rfl HS6 ?_)
  intro b8 W9 HS10
  refine wpList_nil ?_
  refine hK3 _ _ ?_
  refine wp_seq_k (fun K12 hK13 => ?_)
  refine wp_seq_k (fun K14 hK15 => ?_)
  refine wp_region_lit ?_
  refine seqK rfl (does_run (run_loadN (n := 3) rfl Try.underlying44 rfl (by kernel_rfl) (by kernel_rfl : _ = Value.pointer (some ⟨b4, 0, none⟩)) (cs := [.int .i64 b1.Lo, .int .i64 b1.Hi, .bool b1.Unknown]) rfl (HS10.u1.cells 0 3 _ rfl)) ?_)
  have hq_ := bind_some h; clear h; obtain ⟨vt16, hc17, h⟩ := hq_
  refine seqK rfl (does_call (f := 71) (args := #[.agg #[.int .i64 b1.Lo, .int .i64 b1.Hi, .bool b1.Unknown]]) (by kernel_rfl) (bound_Check_Quanta.calls k b1 HS10 vt16 hc17) ?_)
  rintro _ W20 ⟨f18, rfl, L19, HS21⟩
  refine ⟨_, rfl, ?_⟩
  refine seqS1 (a' := ⟨#[.agg #[iV b1.Lo, iV b1.Hi, .bool b1.Unknown], .pointer (some ⟨b4, 0, none⟩), .pointer (some ⟨b8, 0, none⟩), .agg #[iV b1.Lo, iV b1.Hi, .bool b1.Unknown], iV vt16, .bool (vt16 != 0), uV, uV], []⟩) (by kernel_rfl) ?_
  refine wpList_nil ?_
  refine hK15 _ _ ?_
  have hq_ := ite_some h; clear h; rcases hq_ with ⟨c23, h⟩ | ⟨c23, h⟩
  · have c23 : vt16 ≠ 0 := c23
    refine wpRwI 5 (x := (vt16 != 0)) (v := true) (by kernel_rfl) (bne_iff_ne.mpr c23) ?_
    refine condT (by kernel_rfl) ?_
    refine wp_seq_k (fun K24 hK25 => ?_)
    refine wp_region_lit ?_
    have hq_ := bind_some h; clear h; obtain ⟨vt26, hc27, h⟩ := hq_
    refine seqK rfl (does_call (f := 32) (args := #[]) (by kernel_rfl) (bound_None_Quanta.calls k  HS21 vt26 hc27) ?_)
    rintro _ W30 ⟨f28, rfl, L29, HS31⟩
    refine ⟨_, rfl, ?_⟩
    refine seqK rfl (does_store (n := 3) (vs := [.int .i64 vt26.Lo, .int .i64 vt26.Hi, .bool vt26.Unknown]) (cs' := #[.int .i64 vt26.Lo, .int .i64 vt26.Hi, .bool vt26.Unknown]) rfl (by kernel_rfl) (by kernel_rfl : _ = Value.pointer (some ⟨b8, 0, none⟩)) (by kernel_rfl : _ = Value.agg #[.int .i64 vt26.Lo, .int .i64 vt26.Hi, .bool vt26.Unknown]) rfl rfl (by intro u_ hu_; simp only [List.mem_cons, List.not_mem_nil, or_false] at hu_; rcases hu_ with rfl | rfl | rfl <;> rfl) HS31 (Nat.le_of_ble_eq_true rfl) (by kernel_rfl) ?_)
    intro W32 HS33
    refine wpList_nil ?_
    refine hK25 _ _ ?_
    refine wp_ret ?_
    refine hret _ _ ?_
    refine ends (v := Value.agg #[.int .i64 vt26.Lo, .int .i64 vt26.Hi, .bool vt26.Unknown]) (results1 (q1 := .cell 2 44) (by kernel_rfl) (resN (n := 3) (cs := [.int .i64 vt26.Lo, .int .i64 vt26.Hi, .bool vt26.Unknown]) (by kernel_rfl : _ = Value.pointer (some ⟨b8, 0, none⟩)) Try.underlying44 rfl (by kernel_rfl) rfl (HS33.cells 0 3 _ rfl))) (by kernel_rfl) ?_
    have HS38 := HS33.drop
    have HS39 := HS38.drop
    injection h with h
    subst h
    exact ⟨f28, rfl, (L19.trans L29), HS39⟩
  · have c23 : ¬ (vt16 ≠ 0) := c23
    refine wpRwI 5 (x := (vt16 != 0)) (v := false) (by kernel_rfl) (bne_eq_false_iff_eq.mpr (Decidable.of_not_not c23)) ?_
    refine condF (by kernel_rfl) ?_
    refine wp_skip ?_
    refine hK13 _ _ ?_
    refine wp_seq_k (fun K34 hK35 => ?_)
    refine wp_region_lit ?_
    refine seqK rfl (does_run (run_loadN (n := 3) rfl Try.underlying44 rfl (by kernel_rfl) (by kernel_rfl : _ = Value.pointer (some ⟨b4, 0, none⟩)) (cs := [.int .i64 b1.Lo, .int .i64 b1.Hi, .bool b1.Unknown]) rfl (HS21.u1.cells 0 3 _ rfl)) ?_)
    refine seqK rfl (does_store (n := 3) (vs := [.int .i64 b1.Lo, .int .i64 b1.Hi, .bool b1.Unknown]) (cs' := #[.int .i64 b1.Lo, .int .i64 b1.Hi, .bool b1.Unknown]) rfl (by kernel_rfl) (by kernel_rfl : _ = Value.pointer (some ⟨b8, 0, none⟩)) (by kernel_rfl : _ = Value.agg #[.int .i64 b1.Lo, .int .i64 b1.Hi, .bool b1.Unknown]) rfl rfl (by intro u_ hu_; simp only [List.mem_cons, List.not_mem_nil, or_false] at hu_; rcases hu_ with rfl | rfl | rfl <;> rfl) HS21 (Nat.le_of_ble_eq_true rfl) (by kernel_rfl) ?_)
    intro W36 HS37
    refine wpList_nil ?_
    refine hK35 _ _ ?_
    refine wp_ret ?_
    refine hret _ _ ?_
    refine ends (v := Value.agg #[.int .i64 b1.Lo, .int .i64 b1.Hi, .bool b1.Unknown]) (results1 (q1 := .cell 2 44) (by kernel_rfl) (resN (n := 3) (cs := [.int .i64 b1.Lo, .int .i64 b1.Hi, .bool b1.Unknown]) (by kernel_rfl : _ = Value.pointer (some ⟨b8, 0, none⟩)) Try.underlying44 rfl (by kernel_rfl) rfl (HS37.cells 0 3 _ rfl))) (by kernel_rfl) ?_
    have HS40 := HS37.drop
    have HS41 := HS40.drop
    injection h with h
    subst h
    exact ⟨f18, rfl, L19, HS41⟩

set_option maxRecDepth 100000 in
set_option maxHeartbeats 4000000 in
theorem bound_Of_Quanta.calls (k : Nat)  (lo1 : Int) (hi2 : Int) {t w : World} {f : FM} {H : List Seg} (HS : St t w f (H)) (r1 : S_Bound) (h : bound_Of_Quanta k lo1 hi2 = some r1) :
    Calls Try.prog 22 #[.int .i64 lo1, .int .i64 hi2] w (fun e w' => ∃ (g : FM), e = .returned (Value.agg #[.int .i64 r1.Lo, .int .i64 r1.Hi, .bool r1.Unknown]) ∧ FM.le f g ∧ St t w' g (H)) := by
  unfold bound_Of_Quanta at h
  refine enter Try.func22 rfl (tm := #[iV lo1, iV hi2, uV, uV, uV, uV, uV, uV, uV]) (by kernel_rfl) ?_
  intro B hret hnor hnp
  refine wp_seq_k (fun K3 hK4 => ?_)
  refine wp_region_lit ?_
  refine seqK rfl (does_alloc (z := Value.agg #[.int .i64 0, .int .i64 0, .bool false]) (cs := #[.int .i64 0, .int .i64 0, .bool false]) rfl (by kernel_rfl) rfl HS ?_)
  intro b5 W6 HS7
  refine wpList_nil ?_
  refine hK4 _ _ ?_
  refine wp_seq_k (fun K9 hK10 => ?_)
  refine wp_region_lit ?_
  have hq_ := bind_some h; clear h; obtain ⟨vt11, hc12, h⟩ := hq_
  refine seqL3 (by kernel_rfl) ?_
  refine seqK rfl (does_call (f := 45) (args := #[.agg #[.int .i64 lo1, .int .i64 hi2, .bool false]]) (by kernel_rfl) (bound_Norm_Quanta.calls k (⟨lo1, hi2, false⟩ : S_Bound) HS7 vt11 hc12) ?_)
  rintro _ W15 ⟨f13, rfl, L14, HS16⟩
  refine ⟨_, rfl, ?_⟩
  refine seqK rfl (does_store (n := 3) (vs := [.int .i64 vt11.Lo, .int .i64 vt11.Hi, .bool vt11.Unknown]) (cs' := #[.int .i64 vt11.Lo, .int .i64 vt11.Hi, .bool vt11.Unknown]) rfl (by kernel_rfl) (by kernel_rfl : _ = Value.pointer (some ⟨b5, 0, none⟩)) (by kernel_rfl : _ = Value.agg #[.int .i64 vt11.Lo, .int .i64 vt11.Hi, .bool vt11.Unknown]) rfl rfl (by intro u_ hu_; simp only [List.mem_cons, List.not_mem_nil, or_false] at hu_; rcases hu_ with rfl | rfl | rfl <;> rfl) HS16 (Nat.le_of_ble_eq_true rfl) (by kernel_rfl) ?_)
  intro W17 HS18
  refine wpList_nil ?_
  refine hK10 _ _ ?_
  refine wp_ret ?_
  refine hret _ _ ?_
  refine ends (v := Value.agg #[.int .i64 vt11.Lo, .int .i64 vt11.Hi, .bool vt11.Unknown]) (results1 (q1 := .cell 4 44) (by kernel_rfl) (resN (n := 3) (cs := [.int .i64 vt11.Lo, .int .i64 vt11.Hi, .bool vt11.Unknown]) (by kernel_rfl : _ = Value.pointer (some ⟨b5, 0, none⟩)) Try.underlying44 rfl (by kernel_rfl) rfl (HS18.cells 0 3 _ rfl))) (by kernel_rfl) ?_
  have HS19 := HS18.drop
  injection h with h
  subst h
  exact ⟨f13, rfl, L14, HS19⟩

set_option maxRecDepth 100000 in
set_option maxHeartbeats 4000000 in
theorem clean_Check.calls (k : Nat) (A2 : Option Addr) (c3 : Nat) (c1 : S_Cells) {t w : World} {f : FM} {H : List Seg} (HS : St t w f (H)) (HR4 : SlR ty_Bound f A2 c3 c1.At) (r1 : Int) (h : clean_Check k c1 = some r1) :
    Calls Try.prog 63 #[.agg #[.int .i64 c1.W, .int .i64 c1.H, .slice A2 c1.At.length c3]] w (fun e w' => ∃ (g : FM), e = .returned (Value.int .i64 r1) ∧ FM.le f g ∧ St t w' g (H)) := by
  unfold clean_Check at h
  refine enter Try.func63 rfl (tm := #[.agg #[iV c1.W, iV c1.H, .slice A2 c1.At.length c3], uV, uV, uV, uV, uV, uV, uV, uV, uV, uV, uV, uV, uV, uV, uV, uV, uV, uV, uV, uV, uV, uV, uV, uV, uV, uV, uV, uV, uV, uV, uV, uV, uV, uV, uV, uV, uV, uV, uV, uV, uV, uV, uV, uV, uV, uV, uV, uV, uV, uV, uV]) (by kernel_rfl) ?_
  intro B hret hnor hnp
  refine wp_seq_k (fun K5 hK6 => ?_)
  refine wp_region_lit ?_
  refine seqK rfl (does_box (cs := #[.int .i64 c1.W, .int .i64 c1.H, .slice A2 c1.At.length c3]) rfl (by kernel_rfl : _ = Value.agg #[.int .i64 c1.W, .int .i64 c1.H, .slice A2 c1.At.length c3]) rfl HS ?_)
  intro b7 W8 HS9
  refine seqS1 (a' := ⟨#[.agg #[iV c1.W, iV c1.H, .slice A2 c1.At.length c3], .pointer (some ⟨b7, 0, none⟩), iV 0, uV, uV, uV, uV, uV, uV, uV, uV, uV, uV, uV, uV, uV, uV, uV, uV, uV, uV, uV, uV, uV, uV, uV, uV, uV, uV, uV, uV, uV, uV, uV, uV, uV, uV, uV, uV, uV, uV, uV, uV, uV, uV, uV, uV, uV, uV, uV, uV, uV], []⟩) (by kernel_rfl) ?_
  refine wpList_nil ?_
  refine hK6 _ _ ?_
  refine wp_seq_k (fun K11 hK12 => ?_)
  refine wp_seq_k (fun K13 hK14 => ?_)
  refine wp_region_lit ?_
  refine seqL1 (by kernel_rfl) ?_
  refine seqK rfl (does_run (run_load rfl Try.underlying3 rfl (by kernel_rfl : _ = Value.pointer (some ⟨b7, 0, none⟩)) (HS9.cell 0)) ?_)
  refine seqL1 (by kernel_rfl) ?_
  refine seqK rfl (does_run (run_load rfl Try.underlying3 rfl (by kernel_rfl : _ = Value.pointer (some ⟨b7, 1, none⟩)) (HS9.cell 1)) ?_)
  refine seqS3 (a' := ⟨#[.agg #[iV c1.W, iV c1.H, .slice A2 c1.At.length c3], .pointer (some ⟨b7, 0, none⟩), iV 0, uV, uV, uV, .pointer (some ⟨b7, 0, none⟩), iV c1.W, .pointer (some ⟨b7, 1, none⟩), iV c1.H, iV (mn c1.W c1.H), .bool (decide ((mn c1.W c1.H) < 1)), .bool (decide ((mn c1.W c1.H) < 1)), uV, uV, uV, uV, uV, uV, uV, uV, uV, uV, uV, uV, uV, uV, uV, uV, uV, uV, uV, uV, uV, uV, uV, uV, uV, uV, uV, uV, uV, uV, uV, uV, uV, uV, uV, uV, uV, uV, uV], []⟩) (by kernel_rfl) ?_
  have hq_ := ite_some h; clear h; rcases hq_ with ⟨c15, h⟩ | ⟨c15, h⟩
  · have c15 : (mn c1.W c1.H) < 1 := c15
    refine seqRwI 11 (x := (decide ((mn c1.W c1.H) < 1))) (v := true) (by kernel_rfl) (decide_eq_true c15) ?_
    refine seqRwI 12 (x := (decide ((mn c1.W c1.H) < 1))) (v := true) (by kernel_rfl) (decide_eq_true c15) ?_
    refine seqS18 (a' := ⟨#[.agg #[iV c1.W, iV c1.H, .slice A2 c1.At.length c3], .pointer (some ⟨b7, 0, none⟩), iV 0, uV, uV, uV, .pointer (some ⟨b7, 0, none⟩), iV c1.W, .pointer (some ⟨b7, 1, none⟩), iV c1.H, iV (mn c1.W c1.H), .bool true, .bool true, uV, uV, uV, uV, uV, uV, .bool true, .bool true, uV, uV, uV, uV, uV, uV, uV, uV, uV, .bool true, uV, uV, uV, uV, uV, uV, uV, uV, uV, uV, uV, uV, uV, uV, uV, uV, uV, uV, uV, uV, uV], []⟩) (by kernel_rfl) ?_
    refine wpList_nil ?_
    refine hK14 _ _ ?_
    refine condT (by kernel_rfl) ?_
    refine wp_seq_k (fun K16 hK17 => ?_)
    refine wp_region_lit ?_
    refine seqS1 (a' := ⟨#[.agg #[iV c1.W, iV c1.H, .slice A2 c1.At.length c3], .pointer (some ⟨b7, 0, none⟩), iV 3, uV, uV, uV, .pointer (some ⟨b7, 0, none⟩), iV c1.W, .pointer (some ⟨b7, 1, none⟩), iV c1.H, iV (mn c1.W c1.H), .bool true, .bool true, uV, uV, uV, uV, uV, uV, .bool true, .bool true, uV, uV, uV, uV, uV, uV, uV, uV, uV, .bool true, uV, uV, uV, uV, uV, uV, uV, uV, uV, uV, uV, uV, uV, uV, uV, uV, uV, uV, uV, uV, uV], []⟩) (by kernel_rfl) ?_
    refine wpList_nil ?_
    refine hK17 _ _ ?_
    refine wp_ret ?_
    refine hret _ _ ?_
    refine ends_still (v := Value.int .i64 3) (by kernel_rfl) (by kernel_rfl) ?_
    have HS114 := HS9.drop
    injection h with h
    subst h
    exact ⟨f, rfl, FM.le.refl _, HS114⟩
  · have c15 : ¬ ((mn c1.W c1.H) < 1) := c15
    refine seqRwI 11 (x := (decide ((mn c1.W c1.H) < 1))) (v := false) (by kernel_rfl) (decide_eq_false c15) ?_
    refine seqRwI 12 (x := (decide ((mn c1.W c1.H) < 1))) (v := false) (by kernel_rfl) (decide_eq_false c15) ?_
    refine seqL1 (by kernel_rfl) ?_
    refine seqG (by kernel_rfl) (does_run (run_load rfl Try.underlying3 rfl (by kernel_rfl : _ = Value.pointer (some ⟨b7, 0, none⟩)) (HS9.cell 0)) ?_)
    refine seqL1 (by kernel_rfl) ?_
    refine seqG (by kernel_rfl) (does_run (run_load rfl Try.underlying3 rfl (by kernel_rfl : _ = Value.pointer (some ⟨b7, 1, none⟩)) (HS9.cell 1)) ?_)
    refine seqS4 (a' := ⟨#[.agg #[iV c1.W, iV c1.H, .slice A2 c1.At.length c3], .pointer (some ⟨b7, 0, none⟩), iV 0, uV, uV, uV, .pointer (some ⟨b7, 0, none⟩), iV c1.W, .pointer (some ⟨b7, 1, none⟩), iV c1.H, iV (mn c1.W c1.H), .bool false, .bool false, .pointer (some ⟨b7, 0, none⟩), iV c1.W, .pointer (some ⟨b7, 1, none⟩), iV c1.H, iV (mx c1.W c1.H), .bool (decide ((mx c1.W c1.H) > 32)), .bool (decide ((mx c1.W c1.H) > 32)), .bool (decide ((mx c1.W c1.H) > 32)), uV, uV, uV, uV, uV, uV, uV, uV, uV, uV, uV, uV, uV, uV, uV, uV, uV, uV, uV, uV, uV, uV, uV, uV, uV, uV, uV, uV, uV, uV, uV], []⟩) (by kernel_rfl) ?_
    have hq_ := ite_some h; clear h; rcases hq_ with ⟨c18, h⟩ | ⟨c18, h⟩
    · have c18 : (mx c1.W c1.H) > 32 := c18
      refine seqRwI 18 (x := (decide ((mx c1.W c1.H) > 32))) (v := true) (by kernel_rfl) (decide_eq_true c18) ?_
      refine seqRwI 19 (x := (decide ((mx c1.W c1.H) > 32))) (v := true) (by kernel_rfl) (decide_eq_true c18) ?_
      refine seqRwI 20 (x := (decide ((mx c1.W c1.H) > 32))) (v := true) (by kernel_rfl) (decide_eq_true c18) ?_
      refine seqS10 (a' := ⟨#[.agg #[iV c1.W, iV c1.H, .slice A2 c1.At.length c3], .pointer (some ⟨b7, 0, none⟩), iV 0, uV, uV, uV, .pointer (some ⟨b7, 0, none⟩), iV c1.W, .pointer (some ⟨b7, 1, none⟩), iV c1.H, iV (mn c1.W c1.H), .bool false, .bool false, .pointer (some ⟨b7, 0, none⟩), iV c1.W, .pointer (some ⟨b7, 1, none⟩), iV c1.H, iV (mx c1.W c1.H), .bool true, .bool true, .bool true, uV, uV, uV, uV, uV, uV, uV, uV, uV, .bool true, uV, uV, uV, uV, uV, uV, uV, uV, uV, uV, uV, uV, uV, uV, uV, uV, uV, uV, uV, uV, uV], []⟩) (by kernel_rfl) ?_
      refine wpList_nil ?_
      refine hK14 _ _ ?_
      refine condT (by kernel_rfl) ?_
      refine wp_seq_k (fun K19 hK20 => ?_)
      refine wp_region_lit ?_
      refine seqS1 (a' := ⟨#[.agg #[iV c1.W, iV c1.H, .slice A2 c1.At.length c3], .pointer (some ⟨b7, 0, none⟩), iV 3, uV, uV, uV, .pointer (some ⟨b7, 0, none⟩), iV c1.W, .pointer (some ⟨b7, 1, none⟩), iV c1.H, iV (mn c1.W c1.H), .bool false, .bool false, .pointer (some ⟨b7, 0, none⟩), iV c1.W, .pointer (some ⟨b7, 1, none⟩), iV c1.H, iV (mx c1.W c1.H), .bool true, .bool true, .bool true, uV, uV, uV, uV, uV, uV, uV, uV, uV, .bool true, uV, uV, uV, uV, uV, uV, uV, uV, uV, uV, uV, uV, uV, uV, uV, uV, uV, uV, uV, uV, uV], []⟩) (by kernel_rfl) ?_
      refine wpList_nil ?_
      refine hK20 _ _ ?_
      refine wp_ret ?_
      refine hret _ _ ?_
      refine ends_still (v := Value.int .i64 3) (by kernel_rfl) (by kernel_rfl) ?_
      have HS115 := HS9.drop
      injection h with h
      subst h
      exact ⟨f, rfl, FM.le.refl _, HS115⟩
    · have c18 : ¬ ((mx c1.W c1.H) > 32) := c18
      refine seqRwI 18 (x := (decide ((mx c1.W c1.H) > 32))) (v := false) (by kernel_rfl) (decide_eq_false c18) ?_
      refine seqRwI 19 (x := (decide ((mx c1.W c1.H) > 32))) (v := false) (by kernel_rfl) (decide_eq_false c18) ?_
      refine seqRwI 20 (x := (decide ((mx c1.W c1.H) > 32))) (v := false) (by kernel_rfl) (decide_eq_false c18) ?_
      refine seqL1 (by kernel_rfl) ?_
      refine seqG (by kernel_rfl) (does_run (run_load rfl Try.underlying32 rfl (by kernel_rfl : _ = Value.pointer (some ⟨b7, 2, none⟩)) (HS9.cell 2)) ?_)
      refine seqL2 (by kernel_rfl) ?_
      refine seqG (by kernel_rfl) (does_run (run_load rfl Try.underlying3 rfl (by kernel_rfl : _ = Value.pointer (some ⟨b7, 0, none⟩)) (HS9.cell 0)) ?_)
      refine seqL1 (by kernel_rfl) ?_
      refine seqG (by kernel_rfl) (does_run (run_load rfl Try.underlying3 rfl (by kernel_rfl : _ = Value.pointer (some ⟨b7, 1, none⟩)) (HS9.cell 1)) ?_)
      refine seqS3 (a' := ⟨#[.agg #[iV c1.W, iV c1.H, .slice A2 c1.At.length c3], .pointer (some ⟨b7, 0, none⟩), iV 0, uV, uV, uV, .pointer (some ⟨b7, 0, none⟩), iV c1.W, .pointer (some ⟨b7, 1, none⟩), iV c1.H, iV (mn c1.W c1.H), .bool false, .bool false, .pointer (some ⟨b7, 0, none⟩), iV c1.W, .pointer (some ⟨b7, 1, none⟩), iV c1.H, iV (mx c1.W c1.H), .bool false, .bool false, .bool false, .pointer (some ⟨b7, 2, none⟩), .slice A2 c1.At.length c3, iV (c1.At.length : Int), .pointer (some ⟨b7, 0, none⟩), iV c1.W, .pointer (some ⟨b7, 1, none⟩), iV c1.H, iV (w64 (c1.W * c1.H)), .bool ((c1.At.length : Int) != (w64 (c1.W * c1.H))), .bool ((c1.At.length : Int) != (w64 (c1.W * c1.H))), uV, uV, uV, uV, uV, uV, uV, uV, uV, uV, uV, uV, uV, uV, uV, uV, uV, uV, uV, uV, uV], []⟩) (by kernel_rfl) ?_
      refine wpList_nil ?_
      refine hK14 _ _ ?_
      have hq_ := ite_some h; clear h; rcases hq_ with ⟨c22, h⟩ | ⟨c22, h⟩
      · have c22 : (c1.At.length : Int) ≠ (w64 (c1.W * c1.H)) := c22
        refine wpRwI 29 (x := ((c1.At.length : Int) != (w64 (c1.W * c1.H)))) (v := true) (by kernel_rfl) (bne_iff_ne.mpr c22) ?_
        refine wpRwI 30 (x := ((c1.At.length : Int) != (w64 (c1.W * c1.H)))) (v := true) (by kernel_rfl) (bne_iff_ne.mpr c22) ?_
        refine condT (by kernel_rfl) ?_
        refine wp_seq_k (fun K23 hK24 => ?_)
        refine wp_region_lit ?_
        refine seqS1 (a' := ⟨#[.agg #[iV c1.W, iV c1.H, .slice A2 c1.At.length c3], .pointer (some ⟨b7, 0, none⟩), iV 3, uV, uV, uV, .pointer (some ⟨b7, 0, none⟩), iV c1.W, .pointer (some ⟨b7, 1, none⟩), iV c1.H, iV (mn c1.W c1.H), .bool false, .bool false, .pointer (some ⟨b7, 0, none⟩), iV c1.W, .pointer (some ⟨b7, 1, none⟩), iV c1.H, iV (mx c1.W c1.H), .bool false, .bool false, .bool false, .pointer (some ⟨b7, 2, none⟩), .slice A2 c1.At.length c3, iV (c1.At.length : Int), .pointer (some ⟨b7, 0, none⟩), iV c1.W, .pointer (some ⟨b7, 1, none⟩), iV c1.H, iV (w64 (c1.W * c1.H)), .bool true, .bool true, uV, uV, uV, uV, uV, uV, uV, uV, uV, uV, uV, uV, uV, uV, uV, uV, uV, uV, uV, uV, uV], []⟩) (by kernel_rfl) ?_
        refine wpList_nil ?_
        refine hK24 _ _ ?_
        refine wp_ret ?_
        refine hret _ _ ?_
        refine ends_still (v := Value.int .i64 3) (by kernel_rfl) (by kernel_rfl) ?_
        have HS116 := HS9.drop
        injection h with h
        subst h
        exact ⟨f, rfl, FM.le.refl _, HS116⟩
      · have c22 : ¬ ((c1.At.length : Int) ≠ (w64 (c1.W * c1.H))) := c22
        refine wpRwI 29 (x := ((c1.At.length : Int) != (w64 (c1.W * c1.H)))) (v := false) (by kernel_rfl) (bne_eq_false_iff_eq.mpr (Decidable.of_not_not c22)) ?_
        refine wpRwI 30 (x := ((c1.At.length : Int) != (w64 (c1.W * c1.H)))) (v := false) (by kernel_rfl) (bne_eq_false_iff_eq.mpr (Decidable.of_not_not c22)) ?_
        refine condF (by kernel_rfl) ?_
        refine wp_skip ?_
        refine hK12 _ _ ?_
        refine wp_seq_k (fun K25 hK26 => ?_)
        refine wp_seq_k (fun K27 hK28 => ?_)
        refine wp_region_lit ?_
        refine seqL1 (by kernel_rfl) ?_
        refine seqK rfl (does_run (run_load rfl Try.underlying32 rfl (by kernel_rfl : _ = Value.pointer (some ⟨b7, 2, none⟩)) (HS9.cell 2)) ?_)
        refine seqS2 (a' := ⟨#[.agg #[iV c1.W, iV c1.H, .slice A2 c1.At.length c3], .pointer (some ⟨b7, 0, none⟩), iV 0, uV, uV, uV, .pointer (some ⟨b7, 0, none⟩), iV c1.W, .pointer (some ⟨b7, 1, none⟩), iV c1.H, iV (mn c1.W c1.H), .bool false, .bool false, .pointer (some ⟨b7, 0, none⟩), iV c1.W, .pointer (some ⟨b7, 1, none⟩), iV c1.H, iV (mx c1.W c1.H), .bool false, .bool false, .bool false, .pointer (some ⟨b7, 2, none⟩), .slice A2 c1.At.length c3, iV (c1.At.length : Int), .pointer (some ⟨b7, 0, none⟩), iV c1.W, .pointer (some ⟨b7, 1, none⟩), iV c1.H, iV (w64 (c1.W * c1.H)), .bool false, .bool false, .pointer (some ⟨b7, 2, none⟩), .slice A2 c1.At.length c3, iV (c1.At.length : Int), iV 0, uV, uV, uV, uV, uV, uV, uV, uV, uV, uV, uV, uV, uV, uV, uV, uV, uV], []⟩) (by kernel_rfl) ?_
        refine wpList_nil ?_
        refine hK28 _ _ ?_
        refine blockK (fun B29 hx30 hn31 hr32 ho33 hp34 => ?_)
        have hq_ := bind_some h; clear h; obtain ⟨o35, hv105, h⟩ := hq_
        have JR107 : ∀ z_, some (Sum.inl z_) = some o35 → some z_ = some r1 := by
          intro z_ e_; injection e_ with e_; subst e_; exact h
        have J106 : ∀ (f100 : FM) (j104 : Nat → Value) (W102 : World) (a_ : Act), FM.le f f100 → some (Sum.inr ()) = some o35 → St t W102 f100 ([(b7, .cells #[.int .i64 c1.W, .int .i64 c1.H, .slice A2 c1.At.length c3] 34 (0, 0))] :: H) → a_ = ⟨#[.agg #[iV c1.W, iV c1.H, .slice A2 c1.At.length c3], .pointer (some ⟨b7, 0, none⟩), (j104 0), uV, (j104 1), (j104 2), .pointer (some ⟨b7, 0, none⟩), iV c1.W, .pointer (some ⟨b7, 1, none⟩), iV c1.H, iV (mn c1.W c1.H), .bool false, .bool false, .pointer (some ⟨b7, 0, none⟩), iV c1.W, .pointer (some ⟨b7, 1, none⟩), iV c1.H, iV (mx c1.W c1.H), .bool false, .bool false, .bool false, .pointer (some ⟨b7, 2, none⟩), .slice A2 c1.At.length c3, iV (c1.At.length : Int), .pointer (some ⟨b7, 0, none⟩), iV c1.W, .pointer (some ⟨b7, 1, none⟩), iV c1.H, iV (w64 (c1.W * c1.H)), .bool false, .bool false, .pointer (some ⟨b7, 2, none⟩), .slice A2 c1.At.length c3, iV (c1.At.length : Int), (j104 3), (j104 4), (j104 5), (j104 6), (j104 7), (j104 8), (j104 9), (j104 10), (j104 11), (j104 12), (j104 13), (j104 14), (j104 15), (j104 16), (j104 17), (j104 18), (j104 19), (j104 20)], []⟩ → K25 a_ W102 := by
          intro f100 j104 W102 a_ L101 hj108 HS103  hfr_; subst hfr_
          injection hj108 with hj108; subst hj108; try dsimp only at h
          simp only [Sum.elim_inr] at h
          refine hK26 _ _ ?_
          refine wp_seq_k (fun K112 hK113 => ?_)
          refine wp_region_lit ?_
          refine seqS1 (a' := ⟨#[.agg #[iV c1.W, iV c1.H, .slice A2 c1.At.length c3], .pointer (some ⟨b7, 0, none⟩), iV 0, uV, (j104 1), (j104 2), .pointer (some ⟨b7, 0, none⟩), iV c1.W, .pointer (some ⟨b7, 1, none⟩), iV c1.H, iV (mn c1.W c1.H), .bool false, .bool false, .pointer (some ⟨b7, 0, none⟩), iV c1.W, .pointer (some ⟨b7, 1, none⟩), iV c1.H, iV (mx c1.W c1.H), .bool false, .bool false, .bool false, .pointer (some ⟨b7, 2, none⟩), .slice A2 c1.At.length c3, iV (c1.At.length : Int), .pointer (some ⟨b7, 0, none⟩), iV c1.W, .pointer (some ⟨b7, 1, none⟩), iV c1.H, iV (w64 (c1.W * c1.H)), .bool false, .bool false, .pointer (some ⟨b7, 2, none⟩), .slice A2 c1.At.length c3, iV (c1.At.length : Int), (j104 3), (j104 4), (j104 5), (j104 6), (j104 7), (j104 8), (j104 9), (j104 10), (j104 11), (j104 12), (j104 13), (j104 14), (j104 15), (j104 16), (j104 17), (j104 18), (j104 19), (j104 20)], []⟩) (by kernel_rfl) ?_
          refine wpList_nil ?_
          refine hK113 _ _ ?_
          refine wp_ret ?_
          refine hret _ _ ?_
          refine ends_still (v := Value.int .i64 0) (by kernel_rfl) (by kernel_rfl) ?_
          have HS123 := HS103.drop
          injection h with h
          subst h
          exact ⟨f100, rfl, L101, HS123⟩
        clear h; have h := hv105; clear hv105
        refine loopK (fun n_ a_ w_ => ∃ (f39 : FM) (x44 : Int) (j43 : Nat → Value), FM.le f f39 ∧ St t w_ f39 ([(b7, .cells #[.int .i64 c1.W, .int .i64 c1.H, .slice A2 c1.At.length c3] 34 (0, 0))] :: H) ∧ clean_Check.l0 k c1 n_ x44 = some o35 ∧ a_ = ⟨#[.agg #[iV c1.W, iV c1.H, .slice A2 c1.At.length c3], .pointer (some ⟨b7, 0, none⟩), (j43 0), uV, (j43 1), (j43 2), .pointer (some ⟨b7, 0, none⟩), iV c1.W, .pointer (some ⟨b7, 1, none⟩), iV c1.H, iV (mn c1.W c1.H), .bool false, .bool false, .pointer (some ⟨b7, 0, none⟩), iV c1.W, .pointer (some ⟨b7, 1, none⟩), iV c1.H, iV (mx c1.W c1.H), .bool false, .bool false, .bool false, .pointer (some ⟨b7, 2, none⟩), .slice A2 c1.At.length c3, iV (c1.At.length : Int), .pointer (some ⟨b7, 0, none⟩), iV c1.W, .pointer (some ⟨b7, 1, none⟩), iV c1.H, iV (w64 (c1.W * c1.H)), .bool false, .bool false, .pointer (some ⟨b7, 2, none⟩), .slice A2 c1.At.length c3, iV (c1.At.length : Int), iV x44, (j43 3), (j43 4), (j43 5), (j43 6), (j43 7), (j43 8), (j43 9), (j43 10), (j43 11), (j43 12), (j43 13), (j43 14), (j43 15), (j43 16), (j43 17), (j43 18), (j43 19)], []⟩) k ⟨f, 0, (fun i_ => [Value.int .i64 0, undef, undef, undef, undef, undef, undef, undef, undef, undef, undef, undef, undef, undef, undef, undef, undef, undef, undef, undef].getD i_ undef), (FM.le.refl _), HS9, h, (by kernel_rfl)⟩ ?_
        clear h
        rintro n38 _ W41 ⟨f39, x44, j43, L40, HS42, h, rfl⟩ K36 hK37
        obtain _ | n38 := n38
        · exact nomatch h
        simp only [clean_Check.l0] at h
        refine wp_seq_k (fun K45 hK46 => ?_)
        refine wp_region_lit ?_
        refine seqS1 (a' := ⟨#[.agg #[iV c1.W, iV c1.H, .slice A2 c1.At.length c3], .pointer (some ⟨b7, 0, none⟩), (j43 0), uV, (j43 1), (j43 2), .pointer (some ⟨b7, 0, none⟩), iV c1.W, .pointer (some ⟨b7, 1, none⟩), iV c1.H, iV (mn c1.W c1.H), .bool false, .bool false, .pointer (some ⟨b7, 0, none⟩), iV c1.W, .pointer (some ⟨b7, 1, none⟩), iV c1.H, iV (mx c1.W c1.H), .bool false, .bool false, .bool false, .pointer (some ⟨b7, 2, none⟩), .slice A2 c1.At.length c3, iV (c1.At.length : Int), .pointer (some ⟨b7, 0, none⟩), iV c1.W, .pointer (some ⟨b7, 1, none⟩), iV c1.H, iV (w64 (c1.W * c1.H)), .bool false, .bool false, .pointer (some ⟨b7, 2, none⟩), .slice A2 c1.At.length c3, iV (c1.At.length : Int), iV x44, .bool (decide (x44 < (c1.At.length : Int))), (j43 4), (j43 5), (j43 6), (j43 7), (j43 8), (j43 9), (j43 10), (j43 11), (j43 12), (j43 13), (j43 14), (j43 15), (j43 16), (j43 17), (j43 18), (j43 19)], []⟩) (by kernel_rfl) ?_
        refine wpList_nil ?_
        refine hK46 _ _ ?_
        refine wp_seq_k (fun K47 hK48 => ?_)
        have hq_ := ite_some h; clear h; rcases hq_ with ⟨c50, h⟩ | ⟨c50, h⟩
        · have c50 : x44 < (c1.At.length : Int) := c50
          refine wpRwI 35 (x := (decide (x44 < (c1.At.length : Int)))) (v := true) (by kernel_rfl) (decide_eq_true c50) ?_
          refine condT (by kernel_rfl) ?_
          refine wp_skip ?_
          refine hK48 _ _ ?_
          refine wp_seq_k (fun K51 hK52 => ?_)
          refine blockK (fun B53 hx54 hn55 hr56 ho57 hp58 => ?_)
          refine wp_seq_k (fun K60 hK61 => ?_)
          refine wp_region_lit ?_
          have hq_ := guard_some h; clear h; obtain ⟨c62, h⟩ := hq_
          have c62 : 0 ≤ x44 := c62
          obtain ⟨b66, of67, cs63, hA68, hr64, hc65⟩ := (HR4.mono L40).at (i := x44) c62 c50
          obtain rfl := hr64
          refine seqK rfl (does_run (run_indexE hA68 (sz := 3) rfl Try.underlying32 (by kernel_rfl) (by kernel_rfl : _ = Value.slice A2 c1.At.length c3) (by kernel_rfl : _ = Value.int .i64 x44) c62 c50 W41) ?_)
          refine seqK rfl (does_run (run_loadN (n := 3) rfl Try.underlying44 rfl (by kernel_rfl) (by kernel_rfl : _ = Value.pointer (some ⟨b66, of67 + (x44 : Int).toNat * 3, none⟩)) (cs := [.int .i64 ((rd c1.At x44).Lo), .int .i64 ((rd c1.At x44).Hi), .bool ((rd c1.At x44).Unknown)]) rfl (fun j_ hj_ => ((hc65 (FM.le.refl _) HS42) j_ hj_))) ?_)
          refine seqK rfl (does_alloc (z := Value.agg #[.int .i64 0, .int .i64 0, .bool false]) (cs := #[.int .i64 0, .int .i64 0, .bool false]) rfl (by kernel_rfl) rfl HS42 ?_)
          intro b69 W70 HS71
          refine seqK rfl (does_store (n := 3) (vs := [.int .i64 ((rd c1.At x44).Lo), .int .i64 ((rd c1.At x44).Hi), .bool ((rd c1.At x44).Unknown)]) (cs' := #[.int .i64 ((rd c1.At x44).Lo), .int .i64 ((rd c1.At x44).Hi), .bool ((rd c1.At x44).Unknown)]) rfl (by kernel_rfl) (by kernel_rfl : _ = Value.pointer (some ⟨b69, 0, none⟩)) (by kernel_rfl : _ = Value.agg #[.int .i64 ((rd c1.At x44).Lo), .int .i64 ((rd c1.At x44).Hi), .bool ((rd c1.At x44).Unknown)]) rfl rfl (by intro u_ hu_; simp only [List.mem_cons, List.not_mem_nil, or_false] at hu_; rcases hu_ with rfl | rfl | rfl <;> rfl) HS71 (Nat.le_of_ble_eq_true rfl) (by kernel_rfl) ?_)
          intro W73 HS74
          refine wpList_nil ?_
          refine hK61 _ _ ?_
          refine wp_seq_k (fun K75 hK76 => ?_)
          refine wp_seq_k (fun K77 hK78 => ?_)
          refine wp_region_lit ?_
          refine seqK rfl (does_run (run_loadN (n := 3) rfl Try.underlying44 rfl (by kernel_rfl) (by kernel_rfl : _ = Value.pointer (some ⟨b69, 0, none⟩)) (cs := [.int .i64 ((rd c1.At x44).Lo), .int .i64 ((rd c1.At x44).Hi), .bool ((rd c1.At x44).Unknown)]) rfl (HS74.cells 0 3 _ rfl)) ?_)
          have hq_ := bind_some h; clear h; obtain ⟨vt79, hc80, h⟩ := hq_
          refine seqK rfl (does_call (f := 71) (args := #[.agg #[.int .i64 ((rd c1.At x44).Lo), .int .i64 ((rd c1.At x44).Hi), .bool ((rd c1.At x44).Unknown)]]) (by kernel_rfl) (bound_Check_Quanta.calls k (rd c1.At x44) HS74 vt79 hc80) ?_)
          rintro _ W83 ⟨f81, rfl, L82, HS84⟩
          refine ⟨_, rfl, ?_⟩
          refine seqS1 (a' := ⟨#[.agg #[iV c1.W, iV c1.H, .slice A2 c1.At.length c3], .pointer (some ⟨b7, 0, none⟩), (j43 0), uV, .pointer (some ⟨b69, 0, none⟩), iV vt79, .pointer (some ⟨b7, 0, none⟩), iV c1.W, .pointer (some ⟨b7, 1, none⟩), iV c1.H, iV (mn c1.W c1.H), .bool false, .bool false, .pointer (some ⟨b7, 0, none⟩), iV c1.W, .pointer (some ⟨b7, 1, none⟩), iV c1.H, iV (mx c1.W c1.H), .bool false, .bool false, .bool false, .pointer (some ⟨b7, 2, none⟩), .slice A2 c1.At.length c3, iV (c1.At.length : Int), .pointer (some ⟨b7, 0, none⟩), iV c1.W, .pointer (some ⟨b7, 1, none⟩), iV c1.H, iV (w64 (c1.W * c1.H)), .bool false, .bool false, .pointer (some ⟨b7, 2, none⟩), .slice A2 c1.At.length c3, iV (c1.At.length : Int), iV x44, .bool true, .pointer (some ⟨b66, of67 + (x44 : Int).toNat * 3, none⟩), .agg #[iV ((rd c1.At x44).Lo), iV ((rd c1.At x44).Hi), .bool ((rd c1.At x44).Unknown)], .agg #[iV ((rd c1.At x44).Lo), iV ((rd c1.At x44).Hi), .bool ((rd c1.At x44).Unknown)], iV vt79, (j43 8), (j43 9), (j43 10), (j43 11), (j43 12), (j43 13), (j43 14), (j43 15), (j43 16), (j43 17), (j43 18), (j43 19)], []⟩) (by kernel_rfl) ?_
          refine wpList_nil ?_
          refine hK78 _ _ ?_
          refine wp_seq_k (fun K85 hK86 => ?_)
          refine wp_region_lit ?_
          refine seqS2 (a' := ⟨#[.agg #[iV c1.W, iV c1.H, .slice A2 c1.At.length c3], .pointer (some ⟨b7, 0, none⟩), (j43 0), uV, .pointer (some ⟨b69, 0, none⟩), iV vt79, .pointer (some ⟨b7, 0, none⟩), iV c1.W, .pointer (some ⟨b7, 1, none⟩), iV c1.H, iV (mn c1.W c1.H), .bool false, .bool false, .pointer (some ⟨b7, 0, none⟩), iV c1.W, .pointer (some ⟨b7, 1, none⟩), iV c1.H, iV (mx c1.W c1.H), .bool false, .bool false, .bool false, .pointer (some ⟨b7, 2, none⟩), .slice A2 c1.At.length c3, iV (c1.At.length : Int), .pointer (some ⟨b7, 0, none⟩), iV c1.W, .pointer (some ⟨b7, 1, none⟩), iV c1.H, iV (w64 (c1.W * c1.H)), .bool false, .bool false, .pointer (some ⟨b7, 2, none⟩), .slice A2 c1.At.length c3, iV (c1.At.length : Int), iV x44, .bool true, .pointer (some ⟨b66, of67 + (x44 : Int).toNat * 3, none⟩), .agg #[iV ((rd c1.At x44).Lo), iV ((rd c1.At x44).Hi), .bool ((rd c1.At x44).Unknown)], .agg #[iV ((rd c1.At x44).Lo), iV ((rd c1.At x44).Hi), .bool ((rd c1.At x44).Unknown)], iV vt79, iV vt79, .bool (vt79 != 0), (j43 10), (j43 11), (j43 12), (j43 13), (j43 14), (j43 15), (j43 16), (j43 17), (j43 18), (j43 19)], []⟩) (by kernel_rfl) ?_
          refine wpList_nil ?_
          refine hK86 _ _ ?_
          have hq_ := ite_some h; clear h; rcases hq_ with ⟨c88, h⟩ | ⟨c88, h⟩
          · have c88 : vt79 ≠ 0 := c88
            refine wpRwI 41 (x := (vt79 != 0)) (v := true) (by kernel_rfl) (bne_iff_ne.mpr c88) ?_
            refine condT (by kernel_rfl) ?_
            refine wp_seq_k (fun K89 hK90 => ?_)
            refine wp_region_lit ?_
            refine seqS2 (a' := ⟨#[.agg #[iV c1.W, iV c1.H, .slice A2 c1.At.length c3], .pointer (some ⟨b7, 0, none⟩), iV vt79, uV, .pointer (some ⟨b69, 0, none⟩), iV vt79, .pointer (some ⟨b7, 0, none⟩), iV c1.W, .pointer (some ⟨b7, 1, none⟩), iV c1.H, iV (mn c1.W c1.H), .bool false, .bool false, .pointer (some ⟨b7, 0, none⟩), iV c1.W, .pointer (some ⟨b7, 1, none⟩), iV c1.H, iV (mx c1.W c1.H), .bool false, .bool false, .bool false, .pointer (some ⟨b7, 2, none⟩), .slice A2 c1.At.length c3, iV (c1.At.length : Int), .pointer (some ⟨b7, 0, none⟩), iV c1.W, .pointer (some ⟨b7, 1, none⟩), iV c1.H, iV (w64 (c1.W * c1.H)), .bool false, .bool false, .pointer (some ⟨b7, 2, none⟩), .slice A2 c1.At.length c3, iV (c1.At.length : Int), iV x44, .bool true, .pointer (some ⟨b66, of67 + (x44 : Int).toNat * 3, none⟩), .agg #[iV ((rd c1.At x44).Lo), iV ((rd c1.At x44).Hi), .bool ((rd c1.At x44).Unknown)], .agg #[iV ((rd c1.At x44).Lo), iV ((rd c1.At x44).Hi), .bool ((rd c1.At x44).Unknown)], iV vt79, iV vt79, .bool true, iV vt79, (j43 11), (j43 12), (j43 13), (j43 14), (j43 15), (j43 16), (j43 17), (j43 18), (j43 19)], []⟩) (by kernel_rfl) ?_
            refine wpList_nil ?_
            refine hK90 _ _ ?_
            refine wp_ret ?_
            refine hr56 _ _ ?_
            refine hr32 _ _ ?_
            refine hret _ _ ?_
            refine ends_still (v := Value.int .i64 vt79) (by kernel_rfl) (by kernel_rfl) ?_
            have HS117 := HS84.drop
            have HS118 := HS117.drop
            replace h := JR107 _ h
            injection h with h
            subst h
            exact ⟨f81, rfl, (L40.trans L82), HS118⟩
          · have c88 : ¬ (vt79 ≠ 0) := c88
            refine wpRwI 41 (x := (vt79 != 0)) (v := false) (by kernel_rfl) (bne_eq_false_iff_eq.mpr (Decidable.of_not_not c88)) ?_
            refine condF (by kernel_rfl) ?_
            refine wp_skip ?_
            refine hK76 _ _ ?_
            refine wp_seq_k (fun K91 hK92 => ?_)
            refine wp_region_lit ?_
            refine seqL1 (by kernel_rfl) ?_
            refine seqK rfl (does_run (run_load rfl Try.underlying42 rfl (by kernel_rfl : _ = Value.pointer (some ⟨b69, 0, none⟩)) (HS84.cell 0)) ?_)
            refine seqS2 (a' := ⟨#[.agg #[iV c1.W, iV c1.H, .slice A2 c1.At.length c3], .pointer (some ⟨b7, 0, none⟩), (j43 0), uV, .pointer (some ⟨b69, 0, none⟩), iV vt79, .pointer (some ⟨b7, 0, none⟩), iV c1.W, .pointer (some ⟨b7, 1, none⟩), iV c1.H, iV (mn c1.W c1.H), .bool false, .bool false, .pointer (some ⟨b7, 0, none⟩), iV c1.W, .pointer (some ⟨b7, 1, none⟩), iV c1.H, iV (mx c1.W c1.H), .bool false, .bool false, .bool false, .pointer (some ⟨b7, 2, none⟩), .slice A2 c1.At.length c3, iV (c1.At.length : Int), .pointer (some ⟨b7, 0, none⟩), iV c1.W, .pointer (some ⟨b7, 1, none⟩), iV c1.H, iV (w64 (c1.W * c1.H)), .bool false, .bool false, .pointer (some ⟨b7, 2, none⟩), .slice A2 c1.At.length c3, iV (c1.At.length : Int), iV x44, .bool true, .pointer (some ⟨b66, of67 + (x44 : Int).toNat * 3, none⟩), .agg #[iV ((rd c1.At x44).Lo), iV ((rd c1.At x44).Hi), .bool ((rd c1.At x44).Unknown)], .agg #[iV ((rd c1.At x44).Lo), iV ((rd c1.At x44).Hi), .bool ((rd c1.At x44).Unknown)], iV vt79, iV vt79, .bool false, (j43 10), .pointer (some ⟨b69, 0, none⟩), iV ((rd c1.At x44).Lo), .bool (decide (((rd c1.At x44).Lo) < (-1099511627776))), .bool (decide (((rd c1.At x44).Lo) < (-1099511627776))), (j43 15), (j43 16), (j43 17), (j43 18), (j43 19)], []⟩) (by kernel_rfl) ?_
            have hq_ := ite_some h; clear h; rcases hq_ with ⟨c93, h⟩ | ⟨c93, h⟩
            · have c93 : ((rd c1.At x44).Lo) < (-1099511627776) := c93
              refine seqRwI 45 (x := (decide (((rd c1.At x44).Lo) < (-1099511627776)))) (v := true) (by kernel_rfl) (decide_eq_true c93) ?_
              refine seqRwI 46 (x := (decide (((rd c1.At x44).Lo) < (-1099511627776)))) (v := true) (by kernel_rfl) (decide_eq_true c93) ?_
              refine seqS4 (a' := ⟨#[.agg #[iV c1.W, iV c1.H, .slice A2 c1.At.length c3], .pointer (some ⟨b7, 0, none⟩), (j43 0), uV, .pointer (some ⟨b69, 0, none⟩), iV vt79, .pointer (some ⟨b7, 0, none⟩), iV c1.W, .pointer (some ⟨b7, 1, none⟩), iV c1.H, iV (mn c1.W c1.H), .bool false, .bool false, .pointer (some ⟨b7, 0, none⟩), iV c1.W, .pointer (some ⟨b7, 1, none⟩), iV c1.H, iV (mx c1.W c1.H), .bool false, .bool false, .bool false, .pointer (some ⟨b7, 2, none⟩), .slice A2 c1.At.length c3, iV (c1.At.length : Int), .pointer (some ⟨b7, 0, none⟩), iV c1.W, .pointer (some ⟨b7, 1, none⟩), iV c1.H, iV (w64 (c1.W * c1.H)), .bool false, .bool false, .pointer (some ⟨b7, 2, none⟩), .slice A2 c1.At.length c3, iV (c1.At.length : Int), iV x44, .bool true, .pointer (some ⟨b66, of67 + (x44 : Int).toNat * 3, none⟩), .agg #[iV ((rd c1.At x44).Lo), iV ((rd c1.At x44).Hi), .bool ((rd c1.At x44).Unknown)], .agg #[iV ((rd c1.At x44).Lo), iV ((rd c1.At x44).Hi), .bool ((rd c1.At x44).Unknown)], iV vt79, iV vt79, .bool false, (j43 10), .pointer (some ⟨b69, 0, none⟩), iV ((rd c1.At x44).Lo), .bool true, .bool true, uV, uV, uV, .bool true, (j43 19)], []⟩) (by kernel_rfl) ?_
              refine wpList_nil ?_
              refine hK92 _ _ ?_
              refine condT (by kernel_rfl) ?_
              refine wp_seq_k (fun K94 hK95 => ?_)
              refine wp_region_lit ?_
              refine seqS1 (a' := ⟨#[.agg #[iV c1.W, iV c1.H, .slice A2 c1.At.length c3], .pointer (some ⟨b7, 0, none⟩), iV 4, uV, .pointer (some ⟨b69, 0, none⟩), iV vt79, .pointer (some ⟨b7, 0, none⟩), iV c1.W, .pointer (some ⟨b7, 1, none⟩), iV c1.H, iV (mn c1.W c1.H), .bool false, .bool false, .pointer (some ⟨b7, 0, none⟩), iV c1.W, .pointer (some ⟨b7, 1, none⟩), iV c1.H, iV (mx c1.W c1.H), .bool false, .bool false, .bool false, .pointer (some ⟨b7, 2, none⟩), .slice A2 c1.At.length c3, iV (c1.At.length : Int), .pointer (some ⟨b7, 0, none⟩), iV c1.W, .pointer (some ⟨b7, 1, none⟩), iV c1.H, iV (w64 (c1.W * c1.H)), .bool false, .bool false, .pointer (some ⟨b7, 2, none⟩), .slice A2 c1.At.length c3, iV (c1.At.length : Int), iV x44, .bool true, .pointer (some ⟨b66, of67 + (x44 : Int).toNat * 3, none⟩), .agg #[iV ((rd c1.At x44).Lo), iV ((rd c1.At x44).Hi), .bool ((rd c1.At x44).Unknown)], .agg #[iV ((rd c1.At x44).Lo), iV ((rd c1.At x44).Hi), .bool ((rd c1.At x44).Unknown)], iV vt79, iV vt79, .bool false, (j43 10), .pointer (some ⟨b69, 0, none⟩), iV ((rd c1.At x44).Lo), .bool true, .bool true, uV, uV, uV, .bool true, (j43 19)], []⟩) (by kernel_rfl) ?_
              refine wpList_nil ?_
              refine hK95 _ _ ?_
              refine wp_ret ?_
              refine hr56 _ _ ?_
              refine hr32 _ _ ?_
              refine hret _ _ ?_
              refine ends_still (v := Value.int .i64 4) (by kernel_rfl) (by kernel_rfl) ?_
              have HS119 := HS84.drop
              have HS120 := HS119.drop
              replace h := JR107 _ h
              injection h with h
              subst h
              exact ⟨f81, rfl, (L40.trans L82), HS120⟩
            · have c93 : ¬ (((rd c1.At x44).Lo) < (-1099511627776)) := c93
              refine seqRwI 45 (x := (decide (((rd c1.At x44).Lo) < (-1099511627776)))) (v := false) (by kernel_rfl) (decide_eq_false c93) ?_
              refine seqRwI 46 (x := (decide (((rd c1.At x44).Lo) < (-1099511627776)))) (v := false) (by kernel_rfl) (decide_eq_false c93) ?_
              refine seqL1 (by kernel_rfl) ?_
              refine seqG (by kernel_rfl) (does_run (run_load rfl Try.underlying42 rfl (by kernel_rfl : _ = Value.pointer (some ⟨b69, 1, none⟩)) (HS84.cell 1)) ?_)
              refine seqS2 (a' := ⟨#[.agg #[iV c1.W, iV c1.H, .slice A2 c1.At.length c3], .pointer (some ⟨b7, 0, none⟩), (j43 0), uV, .pointer (some ⟨b69, 0, none⟩), iV vt79, .pointer (some ⟨b7, 0, none⟩), iV c1.W, .pointer (some ⟨b7, 1, none⟩), iV c1.H, iV (mn c1.W c1.H), .bool false, .bool false, .pointer (some ⟨b7, 0, none⟩), iV c1.W, .pointer (some ⟨b7, 1, none⟩), iV c1.H, iV (mx c1.W c1.H), .bool false, .bool false, .bool false, .pointer (some ⟨b7, 2, none⟩), .slice A2 c1.At.length c3, iV (c1.At.length : Int), .pointer (some ⟨b7, 0, none⟩), iV c1.W, .pointer (some ⟨b7, 1, none⟩), iV c1.H, iV (w64 (c1.W * c1.H)), .bool false, .bool false, .pointer (some ⟨b7, 2, none⟩), .slice A2 c1.At.length c3, iV (c1.At.length : Int), iV x44, .bool true, .pointer (some ⟨b66, of67 + (x44 : Int).toNat * 3, none⟩), .agg #[iV ((rd c1.At x44).Lo), iV ((rd c1.At x44).Hi), .bool ((rd c1.At x44).Unknown)], .agg #[iV ((rd c1.At x44).Lo), iV ((rd c1.At x44).Hi), .bool ((rd c1.At x44).Unknown)], iV vt79, iV vt79, .bool false, (j43 10), .pointer (some ⟨b69, 0, none⟩), iV ((rd c1.At x44).Lo), .bool false, .bool false, .pointer (some ⟨b69, 1, none⟩), iV ((rd c1.At x44).Hi), .bool (decide (((rd c1.At x44).Hi) > 1099511627776)), .bool (decide (((rd c1.At x44).Hi) > 1099511627776)), (j43 19)], []⟩) (by kernel_rfl) ?_
              refine wpList_nil ?_
              refine hK92 _ _ ?_
              have hq_ := ite_some h; clear h; rcases hq_ with ⟨c97, h⟩ | ⟨c97, h⟩
              · have c97 : ((rd c1.At x44).Hi) > 1099511627776 := c97
                refine wpRwI 49 (x := (decide (((rd c1.At x44).Hi) > 1099511627776))) (v := true) (by kernel_rfl) (decide_eq_true c97) ?_
                refine wpRwI 50 (x := (decide (((rd c1.At x44).Hi) > 1099511627776))) (v := true) (by kernel_rfl) (decide_eq_true c97) ?_
                refine condT (by kernel_rfl) ?_
                refine wp_seq_k (fun K98 hK99 => ?_)
                refine wp_region_lit ?_
                refine seqS1 (a' := ⟨#[.agg #[iV c1.W, iV c1.H, .slice A2 c1.At.length c3], .pointer (some ⟨b7, 0, none⟩), iV 4, uV, .pointer (some ⟨b69, 0, none⟩), iV vt79, .pointer (some ⟨b7, 0, none⟩), iV c1.W, .pointer (some ⟨b7, 1, none⟩), iV c1.H, iV (mn c1.W c1.H), .bool false, .bool false, .pointer (some ⟨b7, 0, none⟩), iV c1.W, .pointer (some ⟨b7, 1, none⟩), iV c1.H, iV (mx c1.W c1.H), .bool false, .bool false, .bool false, .pointer (some ⟨b7, 2, none⟩), .slice A2 c1.At.length c3, iV (c1.At.length : Int), .pointer (some ⟨b7, 0, none⟩), iV c1.W, .pointer (some ⟨b7, 1, none⟩), iV c1.H, iV (w64 (c1.W * c1.H)), .bool false, .bool false, .pointer (some ⟨b7, 2, none⟩), .slice A2 c1.At.length c3, iV (c1.At.length : Int), iV x44, .bool true, .pointer (some ⟨b66, of67 + (x44 : Int).toNat * 3, none⟩), .agg #[iV ((rd c1.At x44).Lo), iV ((rd c1.At x44).Hi), .bool ((rd c1.At x44).Unknown)], .agg #[iV ((rd c1.At x44).Lo), iV ((rd c1.At x44).Hi), .bool ((rd c1.At x44).Unknown)], iV vt79, iV vt79, .bool false, (j43 10), .pointer (some ⟨b69, 0, none⟩), iV ((rd c1.At x44).Lo), .bool false, .bool false, .pointer (some ⟨b69, 1, none⟩), iV ((rd c1.At x44).Hi), .bool true, .bool true, (j43 19)], []⟩) (by kernel_rfl) ?_
                refine wpList_nil ?_
                refine hK99 _ _ ?_
                refine wp_ret ?_
                refine hr56 _ _ ?_
                refine hr32 _ _ ?_
                refine hret _ _ ?_
                refine ends_still (v := Value.int .i64 4) (by kernel_rfl) (by kernel_rfl) ?_
                have HS121 := HS84.drop
                have HS122 := HS121.drop
                replace h := JR107 _ h
                injection h with h
                subst h
                exact ⟨f81, rfl, (L40.trans L82), HS122⟩
              · have c97 : ¬ (((rd c1.At x44).Hi) > 1099511627776) := c97
                refine wpRwI 49 (x := (decide (((rd c1.At x44).Hi) > 1099511627776))) (v := false) (by kernel_rfl) (decide_eq_false c97) ?_
                refine wpRwI 50 (x := (decide (((rd c1.At x44).Hi) > 1099511627776))) (v := false) (by kernel_rfl) (decide_eq_false c97) ?_
                refine condF (by kernel_rfl) ?_
                refine wp_skip ?_
                refine hn55 _ _ ?_
                refine hK52 _ _ ?_
                refine wp_region_lit ?_
                refine seqS2 (a' := ⟨#[.agg #[iV c1.W, iV c1.H, .slice A2 c1.At.length c3], .pointer (some ⟨b7, 0, none⟩), (j43 0), uV, .pointer (some ⟨b69, 0, none⟩), iV vt79, .pointer (some ⟨b7, 0, none⟩), iV c1.W, .pointer (some ⟨b7, 1, none⟩), iV c1.H, iV (mn c1.W c1.H), .bool false, .bool false, .pointer (some ⟨b7, 0, none⟩), iV c1.W, .pointer (some ⟨b7, 1, none⟩), iV c1.H, iV (mx c1.W c1.H), .bool false, .bool false, .bool false, .pointer (some ⟨b7, 2, none⟩), .slice A2 c1.At.length c3, iV (c1.At.length : Int), .pointer (some ⟨b7, 0, none⟩), iV c1.W, .pointer (some ⟨b7, 1, none⟩), iV c1.H, iV (w64 (c1.W * c1.H)), .bool false, .bool false, .pointer (some ⟨b7, 2, none⟩), .slice A2 c1.At.length c3, iV (c1.At.length : Int), iV (w64 (x44 + 1)), .bool true, .pointer (some ⟨b66, of67 + (x44 : Int).toNat * 3, none⟩), .agg #[iV ((rd c1.At x44).Lo), iV ((rd c1.At x44).Hi), .bool ((rd c1.At x44).Unknown)], .agg #[iV ((rd c1.At x44).Lo), iV ((rd c1.At x44).Hi), .bool ((rd c1.At x44).Unknown)], iV vt79, iV vt79, .bool false, (j43 10), .pointer (some ⟨b69, 0, none⟩), iV ((rd c1.At x44).Lo), .bool false, .bool false, .pointer (some ⟨b69, 1, none⟩), iV ((rd c1.At x44).Hi), .bool false, .bool false, iV (w64 (x44 + 1))], []⟩) (by kernel_rfl) ?_
                refine wpList_nil ?_
                refine hK37 n38 _ _ (Nat.lt_succ_self _) ?_
                have HS109 := HS84.u1
                have HS110 := HS109.u1
                have HS111 := HS110.drop
                exact ⟨f81, (w64 (x44 + 1)), (fun i_ => [(j43 0), Value.pointer (some ⟨b69, 0, none⟩), Value.int .i64 vt79, Value.bool true, Value.pointer (some ⟨b66, of67 + (x44 : Int).toNat * 3, none⟩), Value.agg #[.int .i64 ((rd c1.At x44).Lo), .int .i64 ((rd c1.At x44).Hi), .bool ((rd c1.At x44).Unknown)], Value.agg #[.int .i64 ((rd c1.At x44).Lo), .int .i64 ((rd c1.At x44).Hi), .bool ((rd c1.At x44).Unknown)], Value.int .i64 vt79, Value.int .i64 vt79, Value.bool false, (j43 10), Value.pointer (some ⟨b69, 0, none⟩), Value.int .i64 ((rd c1.At x44).Lo), Value.bool false, Value.bool false, Value.pointer (some ⟨b69, 1, none⟩), Value.int .i64 ((rd c1.At x44).Hi), Value.bool false, Value.bool false, Value.int .i64 (w64 (x44 + 1))].getD i_ undef), (L40.trans L82), HS111, h, (by kernel_rfl)⟩
        · have c50 : ¬ (x44 < (c1.At.length : Int)) := c50
          refine wpRwI 35 (x := (decide (x44 < (c1.At.length : Int)))) (v := false) (by kernel_rfl) (decide_eq_false c50) ?_
          refine condF (by kernel_rfl) ?_
          refine wp_exit ?_
          refine hx30 _ _ ?_
          exact J106 f39 (fun i_ => [(j43 0), (j43 1), (j43 2), Value.int .i64 x44, Value.bool false, (j43 4), (j43 5), (j43 6), (j43 7), (j43 8), (j43 9), (j43 10), (j43 11), (j43 12), (j43 13), (j43 14), (j43 15), (j43 16), (j43 17), (j43 18), (j43 19)].getD i_ undef) W41 _ L40 h HS42 (by kernel_rfl)

set_option maxRecDepth 100000 in
set_option maxHeartbeats 4000000 in
theorem cmp_Or_Errno.calls (k : Nat) (A2 : Option Addr) (c3 : Nat) (vals1 : List Int) {t w : World} {f : FM} {H : List Seg} (HS : St t w f (H)) (HR4 : SlR (tInt .i64) f A2 c3 vals1) (r1 : Int) (h : cmp_Or_Errno k vals1 = some r1) :
    Calls Try.prog 72 #[.slice A2 vals1.length c3] w (fun e w' => ∃ (g : FM), e = .returned (Value.int .i64 r1) ∧ FM.le f g ∧ St t w' g (H)) := by
  unfold cmp_Or_Errno at h
  refine enter Try.func72 rfl (tm := #[.slice A2 vals1.length c3, uV, uV, uV, uV, uV, uV, uV, uV, uV, uV, uV, uV, uV, uV, uV, uV, uV]) (by kernel_rfl) ?_
  intro B hret hnor hnp
  refine wp_seq_k (fun K5 hK6 => ?_)
  refine wp_region_lit ?_
  refine seqS1 (a' := ⟨#[.slice A2 vals1.length c3, uV, iV 0, uV, uV, uV, uV, uV, uV, uV, uV, uV, uV, uV, uV, uV, uV, uV], []⟩) (by kernel_rfl) ?_
  refine wpList_nil ?_
  refine hK6 _ _ ?_
  refine wp_seq_k (fun K7 hK8 => ?_)
  refine wp_region_lit ?_
  refine seqS1 (a' := ⟨#[.slice A2 vals1.length c3, uV, iV 0, iV 0, uV, uV, uV, uV, uV, uV, uV, uV, uV, uV, uV, uV, uV, uV], []⟩) (by kernel_rfl) ?_
  refine wpList_nil ?_
  refine hK8 _ _ ?_
  refine wp_seq_k (fun K9 hK10 => ?_)
  refine wp_seq_k (fun K11 hK12 => ?_)
  refine wp_region_lit ?_
  refine seqS3 (a' := ⟨#[.slice A2 vals1.length c3, uV, iV 0, iV 0, uV, uV, .slice A2 vals1.length c3, iV (vals1.length : Int), iV 0, uV, uV, uV, uV, uV, uV, uV, uV, uV], []⟩) (by kernel_rfl) ?_
  refine wpList_nil ?_
  refine hK12 _ _ ?_
  refine blockK (fun B13 hx14 hn15 hr16 ho17 hp18 => ?_)
  have hq_ := bind_some h; clear h; obtain ⟨o19, hv64, h⟩ := hq_
  have JR66 : ∀ z_, some (Sum.inl z_) = some o19 → some z_ = some r1 := by
    intro z_ e_; injection e_ with e_; subst e_; exact h
  have J65 : ∀ (f59 : FM) (j63 : Nat → Value) (W61 : World) (a_ : Act), FM.le f f59 → some (Sum.inr ()) = some o19 → St t W61 f59 (H) → a_ = ⟨#[.slice A2 vals1.length c3, uV, (j63 0), iV 0, uV, (j63 1), .slice A2 vals1.length c3, iV (vals1.length : Int), (j63 2), (j63 3), (j63 4), (j63 5), (j63 6), (j63 7), (j63 8), (j63 9), (j63 10), uV], []⟩ → K9 a_ W61 := by
    intro f59 j63 W61 a_ L60 hj67 HS62  hfr_; subst hfr_
    injection hj67 with hj67; subst hj67; try dsimp only at h
    simp only [Sum.elim_inr] at h
    refine hK10 _ _ ?_
    refine wp_seq_k (fun K68 hK69 => ?_)
    refine wp_region_lit ?_
    refine seqS2 (a' := ⟨#[.slice A2 vals1.length c3, uV, iV 0, iV 0, uV, (j63 1), .slice A2 vals1.length c3, iV (vals1.length : Int), (j63 2), (j63 3), (j63 4), (j63 5), (j63 6), (j63 7), (j63 8), (j63 9), (j63 10), iV 0], []⟩) (by kernel_rfl) ?_
    refine wpList_nil ?_
    refine hK69 _ _ ?_
    refine wp_ret ?_
    refine hret _ _ ?_
    refine ends_still (v := Value.int .i64 0) (by kernel_rfl) (by kernel_rfl) ?_
    injection h with h
    subst h
    exact ⟨f59, rfl, L60, HS62⟩
  clear h; have h := hv64; clear hv64
  refine loopK (fun n_ a_ w_ => ∃ (f23 : FM) (x28 : Int) (j27 : Nat → Value), FM.le f f23 ∧ St t w_ f23 (H) ∧ cmp_Or_Errno.l0 k vals1 n_ x28 = some o19 ∧ a_ = ⟨#[.slice A2 vals1.length c3, uV, (j27 0), iV 0, uV, (j27 1), .slice A2 vals1.length c3, iV (vals1.length : Int), iV x28, (j27 2), (j27 3), (j27 4), (j27 5), (j27 6), (j27 7), (j27 8), (j27 9), uV], []⟩) k ⟨f, 0, (fun i_ => [Value.int .i64 0, undef, undef, undef, undef, undef, undef, undef, undef, undef].getD i_ undef), (FM.le.refl _), HS, h, (by kernel_rfl)⟩ ?_
  clear h
  rintro n22 _ W25 ⟨f23, x28, j27, L24, HS26, h, rfl⟩ K20 hK21
  obtain _ | n22 := n22
  · exact nomatch h
  simp only [cmp_Or_Errno.l0] at h
  refine wp_seq_k (fun K29 hK30 => ?_)
  refine wp_region_lit ?_
  refine seqS1 (a' := ⟨#[.slice A2 vals1.length c3, uV, (j27 0), iV 0, uV, (j27 1), .slice A2 vals1.length c3, iV (vals1.length : Int), iV x28, .bool (decide (x28 < (vals1.length : Int))), (j27 3), (j27 4), (j27 5), (j27 6), (j27 7), (j27 8), (j27 9), uV], []⟩) (by kernel_rfl) ?_
  refine wpList_nil ?_
  refine hK30 _ _ ?_
  refine wp_seq_k (fun K31 hK32 => ?_)
  have hq_ := ite_some h; clear h; rcases hq_ with ⟨c34, h⟩ | ⟨c34, h⟩
  · have c34 : x28 < (vals1.length : Int) := c34
    refine wpRwI 9 (x := (decide (x28 < (vals1.length : Int)))) (v := true) (by kernel_rfl) (decide_eq_true c34) ?_
    refine condT (by kernel_rfl) ?_
    refine wp_skip ?_
    refine hK32 _ _ ?_
    refine wp_seq_k (fun K35 hK36 => ?_)
    refine blockK (fun B37 hx38 hn39 hr40 ho41 hp42 => ?_)
    refine wp_seq_k (fun K44 hK45 => ?_)
    refine wp_region_lit ?_
    have hq_ := guard_some h; clear h; obtain ⟨c46, h⟩ := hq_
    have c46 : 0 ≤ x28 := c46
    obtain ⟨b50, of51, cs47, hA52, hr48, hc49⟩ := (HR4.mono L24).at (i := x28) c46 c34
    obtain rfl := hr48
    refine seqK rfl (does_run (run_indexE hA52 (sz := 1) rfl Try.underlying137 (by kernel_rfl) (by kernel_rfl : _ = Value.slice A2 vals1.length c3) (by kernel_rfl : _ = Value.int .i64 x28) c46 c34 W25) ?_)
    refine seqK rfl (does_run (run_load rfl Try.underlying35 rfl (by kernel_rfl : _ = Value.pointer (some ⟨b50, of51 + (x28 : Int).toNat * 1, none⟩)) ((hc49 (FM.le.refl _) HS26) 0 (by decide))) ?_)
    refine seqS1 (a' := ⟨#[.slice A2 vals1.length c3, uV, (j27 0), iV 0, uV, iV (rd vals1 x28), .slice A2 vals1.length c3, iV (vals1.length : Int), iV x28, .bool true, .pointer (some ⟨b50, of51 + (x28 : Int).toNat * 1, none⟩), iV (rd vals1 x28), (j27 5), (j27 6), (j27 7), (j27 8), (j27 9), uV], []⟩) (by kernel_rfl) ?_
    refine wpList_nil ?_
    refine hK45 _ _ ?_
    refine wp_seq_k (fun K53 hK54 => ?_)
    refine wp_region_lit ?_
    refine seqS3 (a' := ⟨#[.slice A2 vals1.length c3, uV, (j27 0), iV 0, uV, iV (rd vals1 x28), .slice A2 vals1.length c3, iV (vals1.length : Int), iV x28, .bool true, .pointer (some ⟨b50, of51 + (x28 : Int).toNat * 1, none⟩), iV (rd vals1 x28), iV (rd vals1 x28), iV 0, .bool ((rd vals1 x28) != 0), (j27 8), (j27 9), uV], []⟩) (by kernel_rfl) ?_
    refine wpList_nil ?_
    refine hK54 _ _ ?_
    have hq_ := ite_some h; clear h; rcases hq_ with ⟨c56, h⟩ | ⟨c56, h⟩
    · have c56 : (rd vals1 x28) ≠ 0 := c56
      refine wpRwI 14 (x := ((rd vals1 x28) != 0)) (v := true) (by kernel_rfl) (bne_iff_ne.mpr c56) ?_
      refine condT (by kernel_rfl) ?_
      refine wp_seq_k (fun K57 hK58 => ?_)
      refine wp_region_lit ?_
      refine seqS2 (a' := ⟨#[.slice A2 vals1.length c3, uV, iV (rd vals1 x28), iV 0, uV, iV (rd vals1 x28), .slice A2 vals1.length c3, iV (vals1.length : Int), iV x28, .bool true, .pointer (some ⟨b50, of51 + (x28 : Int).toNat * 1, none⟩), iV (rd vals1 x28), iV (rd vals1 x28), iV 0, .bool true, iV (rd vals1 x28), (j27 9), uV], []⟩) (by kernel_rfl) ?_
      refine wpList_nil ?_
      refine hK58 _ _ ?_
      refine wp_ret ?_
      refine hr40 _ _ ?_
      refine hr16 _ _ ?_
      refine hret _ _ ?_
      refine ends_still (v := Value.int .i64 (rd vals1 x28)) (by kernel_rfl) (by kernel_rfl) ?_
      replace h := JR66 _ h
      injection h with h
      subst h
      exact ⟨f23, rfl, L24, HS26⟩
    · have c56 : ¬ ((rd vals1 x28) ≠ 0) := c56
      refine wpRwI 14 (x := ((rd vals1 x28) != 0)) (v := false) (by kernel_rfl) (bne_eq_false_iff_eq.mpr (Decidable.of_not_not c56)) ?_
      refine condF (by kernel_rfl) ?_
      refine wp_skip ?_
      refine hn39 _ _ ?_
      refine hK36 _ _ ?_
      refine wp_region_lit ?_
      refine seqS2 (a' := ⟨#[.slice A2 vals1.length c3, uV, (j27 0), iV 0, uV, iV (rd vals1 x28), .slice A2 vals1.length c3, iV (vals1.length : Int), iV (w64 (x28 + 1)), .bool true, .pointer (some ⟨b50, of51 + (x28 : Int).toNat * 1, none⟩), iV (rd vals1 x28), iV (rd vals1 x28), iV 0, .bool false, (j27 8), iV (w64 (x28 + 1)), uV], []⟩) (by kernel_rfl) ?_
      refine wpList_nil ?_
      refine hK21 n22 _ _ (Nat.lt_succ_self _) ?_
      exact ⟨f23, (w64 (x28 + 1)), (fun i_ => [(j27 0), Value.int .i64 (rd vals1 x28), Value.bool true, Value.pointer (some ⟨b50, of51 + (x28 : Int).toNat * 1, none⟩), Value.int .i64 (rd vals1 x28), Value.int .i64 (rd vals1 x28), Value.int .i64 0, Value.bool false, (j27 8), Value.int .i64 (w64 (x28 + 1))].getD i_ undef), L24, HS26, h, (by kernel_rfl)⟩
  · have c34 : ¬ (x28 < (vals1.length : Int)) := c34
    refine wpRwI 9 (x := (decide (x28 < (vals1.length : Int)))) (v := false) (by kernel_rfl) (decide_eq_false c34) ?_
    refine condF (by kernel_rfl) ?_
    refine wp_exit ?_
    refine hx14 _ _ ?_
    exact J65 f23 (fun i_ => [(j27 0), (j27 1), Value.int .i64 x28, Value.bool false, (j27 3), (j27 4), (j27 5), (j27 6), (j27 7), (j27 8), (j27 9)].getD i_ undef) W25 _ L24 h HS26 (by kernel_rfl)

set_option maxRecDepth 100000 in
set_option maxHeartbeats 4000000 in
theorem bound_Neg_Quanta.calls (k : Nat)  (b1 : S_Bound) {t w : World} {f : FM} {H : List Seg} (HS : St t w f (H)) (r1 : S_Bound) (h : bound_Neg_Quanta k b1 = some r1) :
    Calls Try.prog 104 #[.agg #[.int .i64 b1.Lo, .int .i64 b1.Hi, .bool b1.Unknown]] w (fun e w' => ∃ (g : FM), e = .returned (Value.agg #[.int .i64 r1.Lo, .int .i64 r1.Hi, .bool r1.Unknown]) ∧ FM.le f g ∧ St t w' g (H)) := by
  unfold bound_Neg_Quanta at h
  refine enter Try.func104 rfl (tm := #[.agg #[iV b1.Lo, iV b1.Hi, .bool b1.Unknown], uV, uV, uV, uV, uV, uV, uV, uV, uV, uV, uV, uV, uV]) (by kernel_rfl) ?_
  intro B hret hnor hnp
  refine wp_seq_k (fun K2 hK3 => ?_)
  refine wp_region_lit ?_
  refine seqK rfl (does_box (cs := #[.int .i64 b1.Lo, .int .i64 b1.Hi, .bool b1.Unknown]) rfl (by kernel_rfl : _ = Value.agg #[.int .i64 b1.Lo, .int .i64 b1.Hi, .bool b1.Unknown]) rfl HS ?_)
  intro b4 W5 HS6
  refine seqK rfl (does_alloc (z := Value.agg #[.int .i64 0, .int .i64 0, .bool false]) (cs := #[.int .i64 0, .int .i64 0, .bool false]) rfl (by kernel_rfl) rfl HS6 ?_)
  intro b8 W9 HS10
  refine wpList_nil ?_
  refine hK3 _ _ ?_
  refine wp_seq_k (fun K12 hK13 => ?_)
  refine wp_region_lit ?_
  refine seqK rfl (does_run (run_loadN (n := 3) rfl Try.underlying44 rfl (by kernel_rfl) (by kernel_rfl : _ = Value.pointer (some ⟨b4, 0, none⟩)) (cs := [.int .i64 b1.Lo, .int .i64 b1.Hi, .bool b1.Unknown]) rfl (HS10.u1.cells 0 3 _ rfl)) ?_)
  have hq_ := bind_some h; clear h; obtain ⟨vt14, hc15, h⟩ := hq_
  refine seqK rfl (does_call (f := 45) (args := #[.agg #[.int .i64 b1.Lo, .int .i64 b1.Hi, .bool b1.Unknown]]) (by kernel_rfl) (bound_Norm_Quanta.calls k b1 HS10 vt14 hc15) ?_)
  rintro _ W18 ⟨f16, rfl, L17, HS19⟩
  refine ⟨_, rfl, ?_⟩
  have HS20 := HS19.u1
  refine seqK rfl (does_store (n := 3) (vs := [.int .i64 vt14.Lo, .int .i64 vt14.Hi, .bool vt14.Unknown]) (cs' := #[.int .i64 vt14.Lo, .int .i64 vt14.Hi, .bool vt14.Unknown]) rfl (by kernel_rfl) (by kernel_rfl : _ = Value.pointer (some ⟨b4, 0, none⟩)) (by kernel_rfl : _ = Value.agg #[.int .i64 vt14.Lo, .int .i64 vt14.Hi, .bool vt14.Unknown]) rfl rfl (by intro u_ hu_; simp only [List.mem_cons, List.not_mem_nil, or_false] at hu_; rcases hu_ with rfl | rfl | rfl <;> rfl) HS20 (Nat.le_of_ble_eq_true rfl) (by kernel_rfl) ?_)
  intro W21 HS22
  refine wpList_nil ?_
  refine hK13 _ _ ?_
  refine wp_seq_k (fun K23 hK24 => ?_)
  refine wp_region_lit ?_
  refine seqL1 (by kernel_rfl) ?_
  refine seqK rfl (does_run (run_load rfl Try.underlying42 rfl (by kernel_rfl : _ = Value.pointer (some ⟨b4, 1, none⟩)) (HS22.cell 1)) ?_)
  refine seqL2 (by kernel_rfl) ?_
  refine seqK rfl (does_run (run_load rfl Try.underlying42 rfl (by kernel_rfl : _ = Value.pointer (some ⟨b4, 0, none⟩)) (HS22.cell 0)) ?_)
  refine seqL2 (by kernel_rfl) ?_
  refine seqK rfl (does_store (n := 1) (vs := [.int .i64 (w64 (0 - vt14.Hi))]) (cs' := #[.int .i64 (w64 (0 - vt14.Hi)), .int .i64 vt14.Hi, .bool vt14.Unknown]) rfl (by kernel_rfl) (by kernel_rfl : _ = Value.pointer (some ⟨b4, 0, none⟩)) (by kernel_rfl : _ = Value.int .i64 (w64 (0 - vt14.Hi))) rfl rfl (by intro u_ hu_; simp only [List.mem_cons, List.not_mem_nil, or_false] at hu_; subst hu_; rfl) HS22 (Nat.le_of_ble_eq_true rfl) (by kernel_rfl) ?_)
  intro W25 HS26
  refine seqL1 (by kernel_rfl) ?_
  refine seqK rfl (does_store (n := 1) (vs := [.int .i64 (w64 (0 - vt14.Lo))]) (cs' := #[.int .i64 (w64 (0 - vt14.Hi)), .int .i64 (w64 (0 - vt14.Lo)), .bool vt14.Unknown]) rfl (by kernel_rfl) (by kernel_rfl : _ = Value.pointer (some ⟨b4, 1, none⟩)) (by kernel_rfl : _ = Value.int .i64 (w64 (0 - vt14.Lo))) rfl rfl (by intro u_ hu_; simp only [List.mem_cons, List.not_mem_nil, or_false] at hu_; subst hu_; rfl) HS26 (Nat.le_of_ble_eq_true rfl) (by kernel_rfl) ?_)
  intro W27 HS28
  refine wpList_nil ?_
  refine hK24 _ _ ?_
  refine wp_seq_k (fun K29 hK30 => ?_)
  refine wp_region_lit ?_
  refine seqK rfl (does_run (run_loadN (n := 3) rfl Try.underlying44 rfl (by kernel_rfl) (by kernel_rfl : _ = Value.pointer (some ⟨b4, 0, none⟩)) (cs := [.int .i64 (w64 (0 - vt14.Hi)), .int .i64 (w64 (0 - vt14.Lo)), .bool vt14.Unknown]) rfl (HS28.cells 0 3 _ rfl)) ?_)
  have HS31 := HS28.u1
  refine seqK rfl (does_store (n := 3) (vs := [.int .i64 (w64 (0 - vt14.Hi)), .int .i64 (w64 (0 - vt14.Lo)), .bool vt14.Unknown]) (cs' := #[.int .i64 (w64 (0 - vt14.Hi)), .int .i64 (w64 (0 - vt14.Lo)), .bool vt14.Unknown]) rfl (by kernel_rfl) (by kernel_rfl : _ = Value.pointer (some ⟨b8, 0, none⟩)) (by kernel_rfl : _ = Value.agg #[.int .i64 (w64 (0 - vt14.Hi)), .int .i64 (w64 (0 - vt14.Lo)), .bool vt14.Unknown]) rfl rfl (by intro u_ hu_; simp only [List.mem_cons, List.not_mem_nil, or_false] at hu_; rcases hu_ with rfl | rfl | rfl <;> rfl) HS31 (Nat.le_of_ble_eq_true rfl) (by kernel_rfl) ?_)
  intro W32 HS33
  refine wpList_nil ?_
  refine hK30 _ _ ?_
  refine wp_ret ?_
  refine hret _ _ ?_
  refine ends (v := Value.agg #[.int .i64 (w64 (0 - vt14.Hi)), .int .i64 (w64 (0 - vt14.Lo)), .bool vt14.Unknown]) (results1 (q1 := .cell 2 44) (by kernel_rfl) (resN (n := 3) (cs := [.int .i64 (w64 (0 - vt14.Hi)), .int .i64 (w64 (0 - vt14.Lo)), .bool vt14.Unknown]) (by kernel_rfl : _ = Value.pointer (some ⟨b8, 0, none⟩)) Try.underlying44 rfl (by kernel_rfl) rfl (HS33.cells 0 3 _ rfl))) (by kernel_rfl) ?_
  have HS34 := HS33.drop
  have HS35 := HS34.drop
  injection h with h
  subst h
  exact ⟨f16, rfl, L17, HS35⟩

set_option maxRecDepth 100000 in
set_option maxHeartbeats 4000000 in
theorem bound_vague_Quanta.calls (k : Nat)  (a1 : S_Bound) (b2 : S_Bound) {t w : World} {f : FM} {H : List Seg} (HS : St t w f (H)) (r1 : Bool) (h : bound_vague_Quanta k a1 b2 = some r1) :
    Calls Try.prog 42 #[.agg #[.int .i64 a1.Lo, .int .i64 a1.Hi, .bool a1.Unknown], .agg #[.int .i64 b2.Lo, .int .i64 b2.Hi, .bool b2.Unknown]] w (fun e w' => ∃ (g : FM), e = .returned (Value.bool r1) ∧ FM.le f g ∧ St t w' g (H)) := by
  unfold bound_vague_Quanta at h
  refine enter Try.func42 rfl (tm := #[.agg #[iV a1.Lo, iV a1.Hi, .bool a1.Unknown], .agg #[iV b2.Lo, iV b2.Hi, .bool b2.Unknown], uV, uV, uV, uV, uV, uV, uV, uV, uV, uV, uV]) (by kernel_rfl) ?_
  intro B hret hnor hnp
  refine wp_seq_k (fun K3 hK4 => ?_)
  refine wp_region_lit ?_
  refine seqK rfl (does_box (cs := #[.int .i64 a1.Lo, .int .i64 a1.Hi, .bool a1.Unknown]) rfl (by kernel_rfl : _ = Value.agg #[.int .i64 a1.Lo, .int .i64 a1.Hi, .bool a1.Unknown]) rfl HS ?_)
  intro b5 W6 HS7
  refine seqK rfl (does_box (cs := #[.int .i64 b2.Lo, .int .i64 b2.Hi, .bool b2.Unknown]) rfl (by kernel_rfl : _ = Value.agg #[.int .i64 b2.Lo, .int .i64 b2.Hi, .bool b2.Unknown]) rfl HS7 ?_)
  intro b9 W10 HS11
  refine seqS1 (a' := ⟨#[.agg #[iV a1.Lo, iV a1.Hi, .bool a1.Unknown], .agg #[iV b2.Lo, iV b2.Hi, .bool b2.Unknown], .pointer (some ⟨b5, 0, none⟩), .pointer (some ⟨b9, 0, none⟩), .bool false, uV, uV, uV, uV, uV, uV, uV, uV], []⟩) (by kernel_rfl) ?_
  refine wpList_nil ?_
  refine hK4 _ _ ?_
  refine wp_seq_k (fun K13 hK14 => ?_)
  refine wp_region_lit ?_
  refine seqK rfl (does_run (run_loadN (n := 3) rfl Try.underlying44 rfl (by kernel_rfl) (by kernel_rfl : _ = Value.pointer (some ⟨b5, 0, none⟩)) (cs := [.int .i64 a1.Lo, .int .i64 a1.Hi, .bool a1.Unknown]) rfl (HS11.u1.cells 0 3 _ rfl)) ?_)
  have hq_ := bind_some h; clear h; obtain ⟨vt15, hc16, h⟩ := hq_
  refine seqK rfl (does_call (f := 45) (args := #[.agg #[.int .i64 a1.Lo, .int .i64 a1.Hi, .bool a1.Unknown]]) (by kernel_rfl) (bound_Norm_Quanta.calls k a1 HS11 vt15 hc16) ?_)
  rintro _ W19 ⟨f17, rfl, L18, HS20⟩
  refine ⟨_, rfl, ?_⟩
  refine seqS2 (a' := ⟨#[.agg #[iV a1.Lo, iV a1.Hi, .bool a1.Unknown], .agg #[iV b2.Lo, iV b2.Hi, .bool b2.Unknown], .pointer (some ⟨b5, 0, none⟩), .pointer (some ⟨b9, 0, none⟩), .bool false, .agg #[iV a1.Lo, iV a1.Hi, .bool a1.Unknown], .agg #[iV vt15.Lo, iV vt15.Hi, .bool vt15.Unknown], .bool vt15.Unknown, .bool vt15.Unknown, uV, uV, uV, uV], []⟩) (by kernel_rfl) ?_
  have hq_ := ite_some h; clear h; rcases hq_ with ⟨c21, h⟩ | ⟨c21, h⟩
  · have c21 : vt15.Unknown = true := c21
    refine seqRwI 7 (x := vt15.Unknown) (v := true) (by kernel_rfl) c21 ?_
    refine seqRwI 8 (x := vt15.Unknown) (v := true) (by kernel_rfl) c21 ?_
    refine seqS5 (a' := ⟨#[.agg #[iV a1.Lo, iV a1.Hi, .bool a1.Unknown], .agg #[iV b2.Lo, iV b2.Hi, .bool b2.Unknown], .pointer (some ⟨b5, 0, none⟩), .pointer (some ⟨b9, 0, none⟩), .bool true, .agg #[iV a1.Lo, iV a1.Hi, .bool a1.Unknown], .agg #[iV vt15.Lo, iV vt15.Hi, .bool vt15.Unknown], .bool true, .bool true, uV, uV, uV, .bool true], []⟩) (by kernel_rfl) ?_
    refine wpList_nil ?_
    refine hK14 _ _ ?_
    refine wp_ret ?_
    refine hret _ _ ?_
    refine ends_still (v := Value.bool true) (by kernel_rfl) (by kernel_rfl) ?_
    have HS28 := HS20.drop
    have HS29 := HS28.drop
    injection h with h
    subst h
    exact ⟨f17, rfl, L18, HS29⟩
  · have c21 : ¬ (vt15.Unknown = true) := c21
    refine seqRwI 7 (x := vt15.Unknown) (v := false) (by kernel_rfl) (Bool.eq_false_iff.mpr c21) ?_
    refine seqRwI 8 (x := vt15.Unknown) (v := false) (by kernel_rfl) (Bool.eq_false_iff.mpr c21) ?_
    refine seqG (by kernel_rfl) (does_run (run_loadN (n := 3) rfl Try.underlying44 rfl (by kernel_rfl) (by kernel_rfl : _ = Value.pointer (some ⟨b9, 0, none⟩)) (cs := [.int .i64 b2.Lo, .int .i64 b2.Hi, .bool b2.Unknown]) rfl (HS20.cells 0 3 _ rfl)) ?_)
    have hq_ := bind_some h; clear h; obtain ⟨vt22, hc23, h⟩ := hq_
    refine seqG (by kernel_rfl) (does_call (f := 45) (args := #[.agg #[.int .i64 b2.Lo, .int .i64 b2.Hi, .bool b2.Unknown]]) (by kernel_rfl) (bound_Norm_Quanta.calls k b2 HS20 vt22 hc23) ?_)
    rintro _ W26 ⟨f24, rfl, L25, HS27⟩
    refine ⟨_, rfl, ?_⟩
    refine seqS3 (a' := ⟨#[.agg #[iV a1.Lo, iV a1.Hi, .bool a1.Unknown], .agg #[iV b2.Lo, iV b2.Hi, .bool b2.Unknown], .pointer (some ⟨b5, 0, none⟩), .pointer (some ⟨b9, 0, none⟩), .bool vt22.Unknown, .agg #[iV a1.Lo, iV a1.Hi, .bool a1.Unknown], .agg #[iV vt15.Lo, iV vt15.Hi, .bool vt15.Unknown], .bool false, .bool false, .agg #[iV b2.Lo, iV b2.Hi, .bool b2.Unknown], .agg #[iV vt22.Lo, iV vt22.Hi, .bool vt22.Unknown], .bool vt22.Unknown, .bool vt22.Unknown], []⟩) (by kernel_rfl) ?_
    refine wpList_nil ?_
    refine hK14 _ _ ?_
    refine wp_ret ?_
    refine hret _ _ ?_
    refine ends_still (v := Value.bool vt22.Unknown) (by kernel_rfl) (by kernel_rfl) ?_
    have HS30 := HS27.drop
    have HS31 := HS30.drop
    injection h with h
    subst h
    exact ⟨f24, rfl, (L18.trans L25), HS31⟩

set_option maxRecDepth 100000 in
set_option maxHeartbeats 4000000 in
theorem bound_Add_Quanta.calls (k : Nat)  (a1 : S_Bound) (b2 : S_Bound) {t w : World} {f : FM} {H : List Seg} (HS : St t w f (H)) (r1 : S_Bound) (h : bound_Add_Quanta k a1 b2 = some r1) :
    Calls Try.prog 103 #[.agg #[.int .i64 a1.Lo, .int .i64 a1.Hi, .bool a1.Unknown], .agg #[.int .i64 b2.Lo, .int .i64 b2.Hi, .bool b2.Unknown]] w (fun e w' => ∃ (g : FM), e = .returned (Value.agg #[.int .i64 r1.Lo, .int .i64 r1.Hi, .bool r1.Unknown]) ∧ FM.le f g ∧ St t w' g (H)) := by
  unfold bound_Add_Quanta at h
  refine enter Try.func103 rfl (tm := #[.agg #[iV a1.Lo, iV a1.Hi, .bool a1.Unknown], .agg #[iV b2.Lo, iV b2.Hi, .bool b2.Unknown], uV, uV, uV, uV, uV, uV, uV, uV, uV, uV, uV, uV, uV, uV, uV, uV, uV, uV]) (by kernel_rfl) ?_
  intro B hret hnor hnp
  refine wp_seq_k (fun K3 hK4 => ?_)
  refine wp_region_lit ?_
  refine seqK rfl (does_box (cs := #[.int .i64 a1.Lo, .int .i64 a1.Hi, .bool a1.Unknown]) rfl (by kernel_rfl : _ = Value.agg #[.int .i64 a1.Lo, .int .i64 a1.Hi, .bool a1.Unknown]) rfl HS ?_)
  intro b5 W6 HS7
  refine seqK rfl (does_box (cs := #[.int .i64 b2.Lo, .int .i64 b2.Hi, .bool b2.Unknown]) rfl (by kernel_rfl : _ = Value.agg #[.int .i64 b2.Lo, .int .i64 b2.Hi, .bool b2.Unknown]) rfl HS7 ?_)
  intro b9 W10 HS11
  refine seqK rfl (does_alloc (z := Value.agg #[.int .i64 0, .int .i64 0, .bool false]) (cs := #[.int .i64 0, .int .i64 0, .bool false]) rfl (by kernel_rfl) rfl HS11 ?_)
  intro b13 W14 HS15
  refine wpList_nil ?_
  refine hK4 _ _ ?_
  refine wp_seq_k (fun K17 hK18 => ?_)
  refine wp_seq_k (fun K19 hK20 => ?_)
  refine wp_region_lit ?_
  refine seqK rfl (does_run (run_loadN (n := 3) rfl Try.underlying44 rfl (by kernel_rfl) (by kernel_rfl : _ = Value.pointer (some ⟨b5, 0, none⟩)) (cs := [.int .i64 a1.Lo, .int .i64 a1.Hi, .bool a1.Unknown]) rfl (HS15.u2.cells 0 3 _ rfl)) ?_)
  refine seqK rfl (does_run (run_loadN (n := 3) rfl Try.underlying44 rfl (by kernel_rfl) (by kernel_rfl : _ = Value.pointer (some ⟨b9, 0, none⟩)) (cs := [.int .i64 b2.Lo, .int .i64 b2.Hi, .bool b2.Unknown]) rfl (HS15.u1.cells 0 3 _ rfl)) ?_)
  have hq_ := bind_some h; clear h; obtain ⟨vt21, hc22, h⟩ := hq_
  refine seqK rfl (does_call (f := 42) (args := #[.agg #[.int .i64 a1.Lo, .int .i64 a1.Hi, .bool a1.Unknown], .agg #[.int .i64 b2.Lo, .int .i64 b2.Hi, .bool b2.Unknown]]) (by kernel_rfl) (bound_vague_Quanta.calls k a1 b2 HS15 vt21 hc22) ?_)
  rintro _ W25 ⟨f23, rfl, L24, HS26⟩
  refine ⟨_, rfl, ?_⟩
  refine wpList_nil ?_
  refine hK20 _ _ ?_
  have hq_ := ite_some h; clear h; rcases hq_ with ⟨c28, h⟩ | ⟨c28, h⟩
  · have c28 : vt21 = true := c28
    refine wpRwI 7 (x := vt21) (v := true) (by kernel_rfl) c28 ?_
    refine condT (by kernel_rfl) ?_
    refine wp_seq_k (fun K29 hK30 => ?_)
    refine wp_region_lit ?_
    have hq_ := bind_some h; clear h; obtain ⟨vt31, hc32, h⟩ := hq_
    refine seqK rfl (does_call (f := 32) (args := #[]) (by kernel_rfl) (bound_None_Quanta.calls k  HS26 vt31 hc32) ?_)
    rintro _ W35 ⟨f33, rfl, L34, HS36⟩
    refine ⟨_, rfl, ?_⟩
    refine seqK rfl (does_store (n := 3) (vs := [.int .i64 vt31.Lo, .int .i64 vt31.Hi, .bool vt31.Unknown]) (cs' := #[.int .i64 vt31.Lo, .int .i64 vt31.Hi, .bool vt31.Unknown]) rfl (by kernel_rfl) (by kernel_rfl : _ = Value.pointer (some ⟨b13, 0, none⟩)) (by kernel_rfl : _ = Value.agg #[.int .i64 vt31.Lo, .int .i64 vt31.Hi, .bool vt31.Unknown]) rfl rfl (by intro u_ hu_; simp only [List.mem_cons, List.not_mem_nil, or_false] at hu_; rcases hu_ with rfl | rfl | rfl <;> rfl) HS36 (Nat.le_of_ble_eq_true rfl) (by kernel_rfl) ?_)
    intro W37 HS38
    refine wpList_nil ?_
    refine hK30 _ _ ?_
    refine wp_ret ?_
    refine hret _ _ ?_
    refine ends (v := Value.agg #[.int .i64 vt31.Lo, .int .i64 vt31.Hi, .bool vt31.Unknown]) (results1 (q1 := .cell 4 44) (by kernel_rfl) (resN (n := 3) (cs := [.int .i64 vt31.Lo, .int .i64 vt31.Hi, .bool vt31.Unknown]) (by kernel_rfl : _ = Value.pointer (some ⟨b13, 0, none⟩)) Try.underlying44 rfl (by kernel_rfl) rfl (HS38.cells 0 3 _ rfl))) (by kernel_rfl) ?_
    have HS49 := HS38.drop
    have HS50 := HS49.drop
    have HS51 := HS50.drop
    injection h with h
    subst h
    exact ⟨f33, rfl, (L24.trans L34), HS51⟩
  · have c28 : ¬ (vt21 = true) := c28
    refine wpRwI 7 (x := vt21) (v := false) (by kernel_rfl) (Bool.eq_false_iff.mpr c28) ?_
    refine condF (by kernel_rfl) ?_
    refine wp_skip ?_
    refine hK18 _ _ ?_
    refine wp_seq_k (fun K39 hK40 => ?_)
    refine wp_region_lit ?_
    refine seqL1 (by kernel_rfl) ?_
    refine seqK rfl (does_run (run_load rfl Try.underlying42 rfl (by kernel_rfl : _ = Value.pointer (some ⟨b5, 0, none⟩)) (HS26.u2.cell 0)) ?_)
    refine seqL1 (by kernel_rfl) ?_
    refine seqK rfl (does_run (run_load rfl Try.underlying42 rfl (by kernel_rfl : _ = Value.pointer (some ⟨b9, 0, none⟩)) (HS26.u1.cell 0)) ?_)
    refine seqL2 (by kernel_rfl) ?_
    refine seqK rfl (does_run (run_load rfl Try.underlying42 rfl (by kernel_rfl : _ = Value.pointer (some ⟨b5, 1, none⟩)) (HS26.u2.cell 1)) ?_)
    refine seqL1 (by kernel_rfl) ?_
    refine seqK rfl (does_run (run_load rfl Try.underlying42 rfl (by kernel_rfl : _ = Value.pointer (some ⟨b9, 1, none⟩)) (HS26.u1.cell 1)) ?_)
    have hq_ := bind_some h; clear h; obtain ⟨vt41, hc42, h⟩ := hq_
    refine seqL1 (by kernel_rfl) ?_
    refine seqK rfl (does_call (f := 22) (args := #[.int .i64 (w64 (a1.Lo + b2.Lo)), .int .i64 (w64 (a1.Hi + b2.Hi))]) (by kernel_rfl) (bound_Of_Quanta.calls k (w64 (a1.Lo + b2.Lo)) (w64 (a1.Hi + b2.Hi)) HS26 vt41 hc42) ?_)
    rintro _ W45 ⟨f43, rfl, L44, HS46⟩
    refine ⟨_, rfl, ?_⟩
    refine seqK rfl (does_store (n := 3) (vs := [.int .i64 vt41.Lo, .int .i64 vt41.Hi, .bool vt41.Unknown]) (cs' := #[.int .i64 vt41.Lo, .int .i64 vt41.Hi, .bool vt41.Unknown]) rfl (by kernel_rfl) (by kernel_rfl : _ = Value.pointer (some ⟨b13, 0, none⟩)) (by kernel_rfl : _ = Value.agg #[.int .i64 vt41.Lo, .int .i64 vt41.Hi, .bool vt41.Unknown]) rfl rfl (by intro u_ hu_; simp only [List.mem_cons, List.not_mem_nil, or_false] at hu_; rcases hu_ with rfl | rfl | rfl <;> rfl) HS46 (Nat.le_of_ble_eq_true rfl) (by kernel_rfl) ?_)
    intro W47 HS48
    refine wpList_nil ?_
    refine hK40 _ _ ?_
    refine wp_ret ?_
    refine hret _ _ ?_
    refine ends (v := Value.agg #[.int .i64 vt41.Lo, .int .i64 vt41.Hi, .bool vt41.Unknown]) (results1 (q1 := .cell 4 44) (by kernel_rfl) (resN (n := 3) (cs := [.int .i64 vt41.Lo, .int .i64 vt41.Hi, .bool vt41.Unknown]) (by kernel_rfl : _ = Value.pointer (some ⟨b13, 0, none⟩)) Try.underlying44 rfl (by kernel_rfl) rfl (HS48.cells 0 3 _ rfl))) (by kernel_rfl) ?_
    have HS52 := HS48.drop
    have HS53 := HS52.drop
    have HS54 := HS53.drop
    injection h with h
    subst h
    exact ⟨f43, rfl, (L24.trans L44), HS54⟩

set_option maxRecDepth 100000 in
set_option maxHeartbeats 4000000 in
theorem bound_Sub_Quanta.calls (k : Nat)  (a1 : S_Bound) (b2 : S_Bound) {t w : World} {f : FM} {H : List Seg} (HS : St t w f (H)) (r1 : S_Bound) (h : bound_Sub_Quanta k a1 b2 = some r1) :
    Calls Try.prog 73 #[.agg #[.int .i64 a1.Lo, .int .i64 a1.Hi, .bool a1.Unknown], .agg #[.int .i64 b2.Lo, .int .i64 b2.Hi, .bool b2.Unknown]] w (fun e w' => ∃ (g : FM), e = .returned (Value.agg #[.int .i64 r1.Lo, .int .i64 r1.Hi, .bool r1.Unknown]) ∧ FM.le f g ∧ St t w' g (H)) := by
  unfold bound_Sub_Quanta at h
  refine enter Try.func73 rfl (tm := #[.agg #[iV a1.Lo, iV a1.Hi, .bool a1.Unknown], .agg #[iV b2.Lo, iV b2.Hi, .bool b2.Unknown], uV, uV, uV, uV, uV, uV, uV]) (by kernel_rfl) ?_
  intro B hret hnor hnp
  refine wp_seq_k (fun K3 hK4 => ?_)
  refine wp_region_lit ?_
  refine seqK rfl (does_box (cs := #[.int .i64 a1.Lo, .int .i64 a1.Hi, .bool a1.Unknown]) rfl (by kernel_rfl : _ = Value.agg #[.int .i64 a1.Lo, .int .i64 a1.Hi, .bool a1.Unknown]) rfl HS ?_)
  intro b5 W6 HS7
  refine seqK rfl (does_box (cs := #[.int .i64 b2.Lo, .int .i64 b2.Hi, .bool b2.Unknown]) rfl (by kernel_rfl : _ = Value.agg #[.int .i64 b2.Lo, .int .i64 b2.Hi, .bool b2.Unknown]) rfl HS7 ?_)
  intro b9 W10 HS11
  refine seqK rfl (does_alloc (z := Value.agg #[.int .i64 0, .int .i64 0, .bool false]) (cs := #[.int .i64 0, .int .i64 0, .bool false]) rfl (by kernel_rfl) rfl HS11 ?_)
  intro b13 W14 HS15
  refine wpList_nil ?_
  refine hK4 _ _ ?_
  refine wp_seq_k (fun K17 hK18 => ?_)
  have HS19 := HS15.u2
  have HS20 := HS19.u2
  have HS21 := HS20.u2
  refine heldG (S := Sg t f ([(b9, .cells #[.int .i64 b2.Lo, .int .i64 b2.Hi, .bool b2.Unknown] 44 (0, 0))] :: [(b5, .cells #[.int .i64 a1.Lo, .int .i64 a1.Hi, .bool a1.Unknown] 44 (0, 0))] :: H) [(4, [(b13, .cells #[.int .i64 0, .int .i64 0, .bool false] 44 (0, 0))])]) (n := 5) (by kernel_rfl) rfl HS21 ?_
  intro W22 HS23
  refine takeGQ 0 [] rfl (by kernel_rfl) (by kernel_rfl) (by kernel_rfl) (by kernel_rfl) (by kernel_rfl) (by kernel_rfl) hnp (Sg.g1 (Sx.of [[(b13, .cells #[.int .i64 0, .int .i64 0, .bool false] 44 (0, 0))]] (FM.le.refl _) HS23) (fun _ => St.only [] HS23 (FM.le.refl _))) (fun w_ hw_ => by obtain ⟨g_, hl_, hS_⟩ := hw_.st; exact run_loadN (n := 3) rfl Try.underlying44 rfl (by kernel_rfl) (by kernel_rfl : _ = Value.pointer (some ⟨b5, 0, none⟩)) (cs := [.int .i64 a1.Lo, .int .i64 a1.Hi, .bool a1.Unknown]) rfl (hS_.u1.cells 0 3 _ rfl)) ?_
  refine takeGQ 1 [] rfl (by kernel_rfl) (by kernel_rfl) (by kernel_rfl) (by kernel_rfl) (by kernel_rfl) (by kernel_rfl) hnp (Sg.g1 (Sx.of [[(b13, .cells #[.int .i64 0, .int .i64 0, .bool false] 44 (0, 0))]] (FM.le.refl _) HS23) (fun _ => St.only [] HS23 (FM.le.refl _))) (fun w_ hw_ => by obtain ⟨g_, hl_, hS_⟩ := hw_.st; exact run_loadN (n := 3) rfl Try.underlying44 rfl (by kernel_rfl) (by kernel_rfl : _ = Value.pointer (some ⟨b9, 0, none⟩)) (cs := [.int .i64 b2.Lo, .int .i64 b2.Hi, .bool b2.Unknown]) rfl (hS_.cells 0 3 _ rfl)) ?_
  have hq_ := bind_some h; clear h; obtain ⟨vt24, hc25, h⟩ := hq_
  refine takeGE 2 (by kernel_rfl) rfl (by kernel_rfl) (does_call (f := 104) (args := #[.agg #[.int .i64 b2.Lo, .int .i64 b2.Hi, .bool b2.Unknown]]) (by kernel_rfl) (bound_Neg_Quanta.calls k b2 HS23 vt24 hc25) ?_)
  rintro _ W28 ⟨f26, rfl, L27, HS29⟩
  refine ⟨_, rfl, ?_⟩
  refine ⟨(Sg.g1 (Sx.of [[(b13, .cells #[.int .i64 0, .int .i64 0, .bool false] 44 (0, 0))]] L27 HS29) (fun _ => St.only [] HS29 L27)), ?_⟩
  have hq_ := bind_some h; clear h; obtain ⟨vt30, hc31, h⟩ := hq_
  refine takeGE 3 (by kernel_rfl) rfl (by kernel_rfl) (does_call (f := 103) (args := #[.agg #[.int .i64 a1.Lo, .int .i64 a1.Hi, .bool a1.Unknown], .agg #[.int .i64 vt24.Lo, .int .i64 vt24.Hi, .bool vt24.Unknown]]) (by kernel_rfl) (bound_Add_Quanta.calls k a1 vt24 HS29 vt30 hc31) ?_)
  rintro _ W34 ⟨f32, rfl, L33, HS35⟩
  refine ⟨_, rfl, ?_⟩
  refine ⟨(Sg.g1 (Sx.of [[(b13, .cells #[.int .i64 0, .int .i64 0, .bool false] 44 (0, 0))]] (L27.trans L33) HS35) (fun _ => St.only [] HS35 (L27.trans L33))), ?_⟩
  refine takeGE 4 (by kernel_rfl) rfl (by kernel_rfl) (does_store (n := 3) (vs := [.int .i64 vt30.Lo, .int .i64 vt30.Hi, .bool vt30.Unknown]) (cs' := #[.int .i64 vt30.Lo, .int .i64 vt30.Hi, .bool vt30.Unknown]) rfl (by kernel_rfl) (by kernel_rfl : _ = Value.pointer (some ⟨b13, 0, none⟩)) (by kernel_rfl : _ = Value.agg #[.int .i64 vt30.Lo, .int .i64 vt30.Hi, .bool vt30.Unknown]) rfl rfl (by intro u_ hu_; simp only [List.mem_cons, List.not_mem_nil, or_false] at hu_; rcases hu_ with rfl | rfl | rfl <;> rfl) HS35 (Nat.le_of_ble_eq_true rfl) (by kernel_rfl) ?_)
  intro W36 HS37
  refine ⟨(Sg.g1 (Sx.of [[(b13, .cells #[.int .i64 vt30.Lo, .int .i64 vt30.Hi, .bool vt30.Unknown] 44 (0, 0))]] (L27.trans L33) HS37) (fun hl_ => Bool.noConfusion (show true = false from hl_))), ?_⟩
  refine doneG (by kernel_rfl) ?_ _
  refine hK18 _ _ ?_
  refine wp_ret ?_
  refine hret _ _ ?_
  refine ends (v := Value.agg #[.int .i64 vt30.Lo, .int .i64 vt30.Hi, .bool vt30.Unknown]) (results1 (q1 := .cell 4 44) (by kernel_rfl) (resN (n := 3) (cs := [.int .i64 vt30.Lo, .int .i64 vt30.Hi, .bool vt30.Unknown]) (by kernel_rfl : _ = Value.pointer (some ⟨b13, 0, none⟩)) Try.underlying44 rfl (by kernel_rfl) rfl (HS37.cells 0 3 _ rfl))) (by kernel_rfl) ?_
  have HS38 := HS37.drop
  have HS39 := HS38.drop
  have HS40 := HS39.drop
  injection h with h
  subst h
  exact ⟨f32, rfl, (L27.trans L33), HS40⟩

set_option maxRecDepth 100000 in
set_option maxHeartbeats 4000000 in
theorem bound_Exact_Quanta.calls (k : Nat)  (v1 : Int) {t w : World} {f : FM} {H : List Seg} (HS : St t w f (H)) (r1 : S_Bound) (h : bound_Exact_Quanta k v1 = some r1) :
    Calls Try.prog 30 #[.int .i64 v1] w (fun e w' => ∃ (g : FM), e = .returned (Value.agg #[.int .i64 r1.Lo, .int .i64 r1.Hi, .bool r1.Unknown]) ∧ FM.le f g ∧ St t w' g (H)) := by
  unfold bound_Exact_Quanta at h
  refine enter Try.func30 rfl (tm := #[iV v1, uV, uV, uV, uV, uV]) (by kernel_rfl) ?_
  intro B hret hnor hnp
  refine wp_seq_k (fun K2 hK3 => ?_)
  refine wp_region_lit ?_
  refine seqK rfl (does_alloc (z := Value.agg #[.int .i64 0, .int .i64 0, .bool false]) (cs := #[.int .i64 0, .int .i64 0, .bool false]) rfl (by kernel_rfl) rfl HS ?_)
  intro b4 W5 HS6
  refine wpList_nil ?_
  refine hK3 _ _ ?_
  refine wp_seq_k (fun K8 hK9 => ?_)
  refine wp_region_lit ?_
  have hq_ := bind_some h; clear h; obtain ⟨vt10, hc11, h⟩ := hq_
  refine seqL2 (by kernel_rfl) ?_
  refine seqK rfl (does_call (f := 22) (args := #[.int .i64 v1, .int .i64 v1]) (by kernel_rfl) (bound_Of_Quanta.calls k v1 v1 HS6 vt10 hc11) ?_)
  rintro _ W14 ⟨f12, rfl, L13, HS15⟩
  refine ⟨_, rfl, ?_⟩
  refine seqK rfl (does_store (n := 3) (vs := [.int .i64 vt10.Lo, .int .i64 vt10.Hi, .bool vt10.Unknown]) (cs' := #[.int .i64 vt10.Lo, .int .i64 vt10.Hi, .bool vt10.Unknown]) rfl (by kernel_rfl) (by kernel_rfl : _ = Value.pointer (some ⟨b4, 0, none⟩)) (by kernel_rfl : _ = Value.agg #[.int .i64 vt10.Lo, .int .i64 vt10.Hi, .bool vt10.Unknown]) rfl rfl (by intro u_ hu_; simp only [List.mem_cons, List.not_mem_nil, or_false] at hu_; rcases hu_ with rfl | rfl | rfl <;> rfl) HS15 (Nat.le_of_ble_eq_true rfl) (by kernel_rfl) ?_)
  intro W16 HS17
  refine wpList_nil ?_
  refine hK9 _ _ ?_
  refine wp_ret ?_
  refine hret _ _ ?_
  refine ends (v := Value.agg #[.int .i64 vt10.Lo, .int .i64 vt10.Hi, .bool vt10.Unknown]) (results1 (q1 := .cell 2 44) (by kernel_rfl) (resN (n := 3) (cs := [.int .i64 vt10.Lo, .int .i64 vt10.Hi, .bool vt10.Unknown]) (by kernel_rfl : _ = Value.pointer (some ⟨b4, 0, none⟩)) Try.underlying44 rfl (by kernel_rfl) rfl (HS17.cells 0 3 _ rfl))) (by kernel_rfl) ?_
  have HS18 := HS17.drop
  injection h with h
  subst h
  exact ⟨f12, rfl, L13, HS18⟩

set_option maxRecDepth 100000 in
set_option maxHeartbeats 4000000 in
theorem bound_Min_Quanta.calls (k : Nat)  (a1 : S_Bound) (b2 : S_Bound) {t w : World} {f : FM} {H : List Seg} (HS : St t w f (H)) (r1 : S_Bound) (h : bound_Min_Quanta k a1 b2 = some r1) :
    Calls Try.prog 105 #[.agg #[.int .i64 a1.Lo, .int .i64 a1.Hi, .bool a1.Unknown], .agg #[.int .i64 b2.Lo, .int .i64 b2.Hi, .bool b2.Unknown]] w (fun e w' => ∃ (g : FM), e = .returned (Value.agg #[.int .i64 r1.Lo, .int .i64 r1.Hi, .bool r1.Unknown]) ∧ FM.le f g ∧ St t w' g (H)) := by
  unfold bound_Min_Quanta at h
  refine enter Try.func105 rfl (tm := #[.agg #[iV a1.Lo, iV a1.Hi, .bool a1.Unknown], .agg #[iV b2.Lo, iV b2.Hi, .bool b2.Unknown], uV, uV, uV, uV, uV, uV, uV, uV, uV, uV, uV, uV, uV, uV, uV, uV, uV, uV]) (by kernel_rfl) ?_
  intro B hret hnor hnp
  refine wp_seq_k (fun K3 hK4 => ?_)
  refine wp_region_lit ?_
  refine seqK rfl (does_box (cs := #[.int .i64 a1.Lo, .int .i64 a1.Hi, .bool a1.Unknown]) rfl (by kernel_rfl : _ = Value.agg #[.int .i64 a1.Lo, .int .i64 a1.Hi, .bool a1.Unknown]) rfl HS ?_)
  intro b5 W6 HS7
  refine seqK rfl (does_box (cs := #[.int .i64 b2.Lo, .int .i64 b2.Hi, .bool b2.Unknown]) rfl (by kernel_rfl : _ = Value.agg #[.int .i64 b2.Lo, .int .i64 b2.Hi, .bool b2.Unknown]) rfl HS7 ?_)
  intro b9 W10 HS11
  refine seqK rfl (does_alloc (z := Value.agg #[.int .i64 0, .int .i64 0, .bool false]) (cs := #[.int .i64 0, .int .i64 0, .bool false]) rfl (by kernel_rfl) rfl HS11 ?_)
  intro b13 W14 HS15
  refine wpList_nil ?_
  refine hK4 _ _ ?_
  refine wp_seq_k (fun K17 hK18 => ?_)
  refine wp_seq_k (fun K19 hK20 => ?_)
  refine wp_region_lit ?_
  refine seqK rfl (does_run (run_loadN (n := 3) rfl Try.underlying44 rfl (by kernel_rfl) (by kernel_rfl : _ = Value.pointer (some ⟨b5, 0, none⟩)) (cs := [.int .i64 a1.Lo, .int .i64 a1.Hi, .bool a1.Unknown]) rfl (HS15.u2.cells 0 3 _ rfl)) ?_)
  refine seqK rfl (does_run (run_loadN (n := 3) rfl Try.underlying44 rfl (by kernel_rfl) (by kernel_rfl : _ = Value.pointer (some ⟨b9, 0, none⟩)) (cs := [.int .i64 b2.Lo, .int .i64 b2.Hi, .bool b2.Unknown]) rfl (HS15.u1.cells 0 3 _ rfl)) ?_)
  have hq_ := bind_some h; clear h; obtain ⟨vt21, hc22, h⟩ := hq_
  refine seqK rfl (does_call (f := 42) (args := #[.agg #[.int .i64 a1.Lo, .int .i64 a1.Hi, .bool a1.Unknown], .agg #[.int .i64 b2.Lo, .int .i64 b2.Hi, .bool b2.Unknown]]) (by kernel_rfl) (bound_vague_Quanta.calls k a1 b2 HS15 vt21 hc22) ?_)
  rintro _ W25 ⟨f23, rfl, L24, HS26⟩
  refine ⟨_, rfl, ?_⟩
  refine wpList_nil ?_
  refine hK20 _ _ ?_
  have hq_ := ite_some h; clear h; rcases hq_ with ⟨c28, h⟩ | ⟨c28, h⟩
  · have c28 : vt21 = true := c28
    refine wpRwI 7 (x := vt21) (v := true) (by kernel_rfl) c28 ?_
    refine condT (by kernel_rfl) ?_
    refine wp_seq_k (fun K29 hK30 => ?_)
    refine wp_region_lit ?_
    have hq_ := bind_some h; clear h; obtain ⟨vt31, hc32, h⟩ := hq_
    refine seqK rfl (does_call (f := 32) (args := #[]) (by kernel_rfl) (bound_None_Quanta.calls k  HS26 vt31 hc32) ?_)
    rintro _ W35 ⟨f33, rfl, L34, HS36⟩
    refine ⟨_, rfl, ?_⟩
    refine seqK rfl (does_store (n := 3) (vs := [.int .i64 vt31.Lo, .int .i64 vt31.Hi, .bool vt31.Unknown]) (cs' := #[.int .i64 vt31.Lo, .int .i64 vt31.Hi, .bool vt31.Unknown]) rfl (by kernel_rfl) (by kernel_rfl : _ = Value.pointer (some ⟨b13, 0, none⟩)) (by kernel_rfl : _ = Value.agg #[.int .i64 vt31.Lo, .int .i64 vt31.Hi, .bool vt31.Unknown]) rfl rfl (by intro u_ hu_; simp only [List.mem_cons, List.not_mem_nil, or_false] at hu_; rcases hu_ with rfl | rfl | rfl <;> rfl) HS36 (Nat.le_of_ble_eq_true rfl) (by kernel_rfl) ?_)
    intro W37 HS38
    refine wpList_nil ?_
    refine hK30 _ _ ?_
    refine wp_ret ?_
    refine hret _ _ ?_
    refine ends (v := Value.agg #[.int .i64 vt31.Lo, .int .i64 vt31.Hi, .bool vt31.Unknown]) (results1 (q1 := .cell 4 44) (by kernel_rfl) (resN (n := 3) (cs := [.int .i64 vt31.Lo, .int .i64 vt31.Hi, .bool vt31.Unknown]) (by kernel_rfl : _ = Value.pointer (some ⟨b13, 0, none⟩)) Try.underlying44 rfl (by kernel_rfl) rfl (HS38.cells 0 3 _ rfl))) (by kernel_rfl) ?_
    have HS49 := HS38.drop
    have HS50 := HS49.drop
    have HS51 := HS50.drop
    injection h with h
    subst h
    exact ⟨f33, rfl, (L24.trans L34), HS51⟩
  · have c28 : ¬ (vt21 = true) := c28
    refine wpRwI 7 (x := vt21) (v := false) (by kernel_rfl) (Bool.eq_false_iff.mpr c28) ?_
    refine condF (by kernel_rfl) ?_
    refine wp_skip ?_
    refine hK18 _ _ ?_
    refine wp_seq_k (fun K39 hK40 => ?_)
    refine wp_region_lit ?_
    refine seqL1 (by kernel_rfl) ?_
    refine seqK rfl (does_run (run_load rfl Try.underlying42 rfl (by kernel_rfl : _ = Value.pointer (some ⟨b5, 0, none⟩)) (HS26.u2.cell 0)) ?_)
    refine seqL1 (by kernel_rfl) ?_
    refine seqK rfl (does_run (run_load rfl Try.underlying42 rfl (by kernel_rfl : _ = Value.pointer (some ⟨b9, 0, none⟩)) (HS26.u1.cell 0)) ?_)
    refine seqL2 (by kernel_rfl) ?_
    refine seqK rfl (does_run (run_load rfl Try.underlying42 rfl (by kernel_rfl : _ = Value.pointer (some ⟨b5, 1, none⟩)) (HS26.u2.cell 1)) ?_)
    refine seqL1 (by kernel_rfl) ?_
    refine seqK rfl (does_run (run_load rfl Try.underlying42 rfl (by kernel_rfl : _ = Value.pointer (some ⟨b9, 1, none⟩)) (HS26.u1.cell 1)) ?_)
    have hq_ := bind_some h; clear h; obtain ⟨vt41, hc42, h⟩ := hq_
    refine seqL1 (by kernel_rfl) ?_
    refine seqK rfl (does_call (f := 22) (args := #[.int .i64 (mn a1.Lo b2.Lo), .int .i64 (mn a1.Hi b2.Hi)]) (by kernel_rfl) (bound_Of_Quanta.calls k (mn a1.Lo b2.Lo) (mn a1.Hi b2.Hi) HS26 vt41 hc42) ?_)
    rintro _ W45 ⟨f43, rfl, L44, HS46⟩
    refine ⟨_, rfl, ?_⟩
    refine seqK rfl (does_store (n := 3) (vs := [.int .i64 vt41.Lo, .int .i64 vt41.Hi, .bool vt41.Unknown]) (cs' := #[.int .i64 vt41.Lo, .int .i64 vt41.Hi, .bool vt41.Unknown]) rfl (by kernel_rfl) (by kernel_rfl : _ = Value.pointer (some ⟨b13, 0, none⟩)) (by kernel_rfl : _ = Value.agg #[.int .i64 vt41.Lo, .int .i64 vt41.Hi, .bool vt41.Unknown]) rfl rfl (by intro u_ hu_; simp only [List.mem_cons, List.not_mem_nil, or_false] at hu_; rcases hu_ with rfl | rfl | rfl <;> rfl) HS46 (Nat.le_of_ble_eq_true rfl) (by kernel_rfl) ?_)
    intro W47 HS48
    refine wpList_nil ?_
    refine hK40 _ _ ?_
    refine wp_ret ?_
    refine hret _ _ ?_
    refine ends (v := Value.agg #[.int .i64 vt41.Lo, .int .i64 vt41.Hi, .bool vt41.Unknown]) (results1 (q1 := .cell 4 44) (by kernel_rfl) (resN (n := 3) (cs := [.int .i64 vt41.Lo, .int .i64 vt41.Hi, .bool vt41.Unknown]) (by kernel_rfl : _ = Value.pointer (some ⟨b13, 0, none⟩)) Try.underlying44 rfl (by kernel_rfl) rfl (HS48.cells 0 3 _ rfl))) (by kernel_rfl) ?_
    have HS52 := HS48.drop
    have HS53 := HS52.drop
    have HS54 := HS53.drop
    injection h with h
    subst h
    exact ⟨f43, rfl, (L24.trans L44), HS54⟩

set_option maxRecDepth 100000 in
set_option maxHeartbeats 4000000 in
theorem bound_Max_Quanta.calls (k : Nat)  (a1 : S_Bound) (b2 : S_Bound) {t w : World} {f : FM} {H : List Seg} (HS : St t w f (H)) (r1 : S_Bound) (h : bound_Max_Quanta k a1 b2 = some r1) :
    Calls Try.prog 74 #[.agg #[.int .i64 a1.Lo, .int .i64 a1.Hi, .bool a1.Unknown], .agg #[.int .i64 b2.Lo, .int .i64 b2.Hi, .bool b2.Unknown]] w (fun e w' => ∃ (g : FM), e = .returned (Value.agg #[.int .i64 r1.Lo, .int .i64 r1.Hi, .bool r1.Unknown]) ∧ FM.le f g ∧ St t w' g (H)) := by
  unfold bound_Max_Quanta at h
  refine enter Try.func74 rfl (tm := #[.agg #[iV a1.Lo, iV a1.Hi, .bool a1.Unknown], .agg #[iV b2.Lo, iV b2.Hi, .bool b2.Unknown], uV, uV, uV, uV, uV, uV, uV, uV, uV]) (by kernel_rfl) ?_
  intro B hret hnor hnp
  refine wp_seq_k (fun K3 hK4 => ?_)
  refine wp_region_lit ?_
  refine seqK rfl (does_box (cs := #[.int .i64 a1.Lo, .int .i64 a1.Hi, .bool a1.Unknown]) rfl (by kernel_rfl : _ = Value.agg #[.int .i64 a1.Lo, .int .i64 a1.Hi, .bool a1.Unknown]) rfl HS ?_)
  intro b5 W6 HS7
  refine seqK rfl (does_box (cs := #[.int .i64 b2.Lo, .int .i64 b2.Hi, .bool b2.Unknown]) rfl (by kernel_rfl : _ = Value.agg #[.int .i64 b2.Lo, .int .i64 b2.Hi, .bool b2.Unknown]) rfl HS7 ?_)
  intro b9 W10 HS11
  refine seqK rfl (does_alloc (z := Value.agg #[.int .i64 0, .int .i64 0, .bool false]) (cs := #[.int .i64 0, .int .i64 0, .bool false]) rfl (by kernel_rfl) rfl HS11 ?_)
  intro b13 W14 HS15
  refine wpList_nil ?_
  refine hK4 _ _ ?_
  refine wp_seq_k (fun K17 hK18 => ?_)
  have HS19 := HS15.u2
  have HS20 := HS19.u2
  have HS21 := HS20.u2
  refine heldG (S := Sg t f ([(b9, .cells #[.int .i64 b2.Lo, .int .i64 b2.Hi, .bool b2.Unknown] 44 (0, 0))] :: [(b5, .cells #[.int .i64 a1.Lo, .int .i64 a1.Hi, .bool a1.Unknown] 44 (0, 0))] :: H) [(6, [(b13, .cells #[.int .i64 0, .int .i64 0, .bool false] 44 (0, 0))])]) (n := 7) (by kernel_rfl) rfl HS21 ?_
  intro W22 HS23
  refine takeGQ 0 [] rfl (by kernel_rfl) (by kernel_rfl) (by kernel_rfl) (by kernel_rfl) (by kernel_rfl) (by kernel_rfl) hnp (Sg.g1 (Sx.of [[(b13, .cells #[.int .i64 0, .int .i64 0, .bool false] 44 (0, 0))]] (FM.le.refl _) HS23) (fun _ => St.only [] HS23 (FM.le.refl _))) (fun w_ hw_ => by obtain ⟨g_, hl_, hS_⟩ := hw_.st; exact run_loadN (n := 3) rfl Try.underlying44 rfl (by kernel_rfl) (by kernel_rfl : _ = Value.pointer (some ⟨b5, 0, none⟩)) (cs := [.int .i64 a1.Lo, .int .i64 a1.Hi, .bool a1.Unknown]) rfl (hS_.u1.cells 0 3 _ rfl)) ?_
  refine takeGQ 2 [] rfl (by kernel_rfl) (by kernel_rfl) (by kernel_rfl) (by kernel_rfl) (by kernel_rfl) (by kernel_rfl) hnp (Sg.g1 (Sx.of [[(b13, .cells #[.int .i64 0, .int .i64 0, .bool false] 44 (0, 0))]] (FM.le.refl _) HS23) (fun _ => St.only [] HS23 (FM.le.refl _))) (fun w_ hw_ => by obtain ⟨g_, hl_, hS_⟩ := hw_.st; exact run_loadN (n := 3) rfl Try.underlying44 rfl (by kernel_rfl) (by kernel_rfl : _ = Value.pointer (some ⟨b9, 0, none⟩)) (cs := [.int .i64 b2.Lo, .int .i64 b2.Hi, .bool b2.Unknown]) rfl (hS_.cells 0 3 _ rfl)) ?_
  have hq_ := bind_some h; clear h; obtain ⟨vt24, hc25, h⟩ := hq_
  refine takeGE 1 (by kernel_rfl) rfl (by kernel_rfl) (does_call (f := 104) (args := #[.agg #[.int .i64 a1.Lo, .int .i64 a1.Hi, .bool a1.Unknown]]) (by kernel_rfl) (bound_Neg_Quanta.calls k a1 HS23 vt24 hc25) ?_)
  rintro _ W28 ⟨f26, rfl, L27, HS29⟩
  refine ⟨_, rfl, ?_⟩
  refine ⟨(Sg.g1 (Sx.of [[(b13, .cells #[.int .i64 0, .int .i64 0, .bool false] 44 (0, 0))]] L27 HS29) (fun _ => St.only [] HS29 L27)), ?_⟩
  have hq_ := bind_some h; clear h; obtain ⟨vt30, hc31, h⟩ := hq_
  refine takeGE 3 (by kernel_rfl) rfl (by kernel_rfl) (does_call (f := 104) (args := #[.agg #[.int .i64 b2.Lo, .int .i64 b2.Hi, .bool b2.Unknown]]) (by kernel_rfl) (bound_Neg_Quanta.calls k b2 HS29 vt30 hc31) ?_)
  rintro _ W34 ⟨f32, rfl, L33, HS35⟩
  refine ⟨_, rfl, ?_⟩
  refine ⟨(Sg.g1 (Sx.of [[(b13, .cells #[.int .i64 0, .int .i64 0, .bool false] 44 (0, 0))]] (L27.trans L33) HS35) (fun _ => St.only [] HS35 (L27.trans L33))), ?_⟩
  have hq_ := bind_some h; clear h; obtain ⟨vt36, hc37, h⟩ := hq_
  refine takeGE 4 (by kernel_rfl) rfl (by kernel_rfl) (does_call (f := 105) (args := #[.agg #[.int .i64 vt24.Lo, .int .i64 vt24.Hi, .bool vt24.Unknown], .agg #[.int .i64 vt30.Lo, .int .i64 vt30.Hi, .bool vt30.Unknown]]) (by kernel_rfl) (bound_Min_Quanta.calls k vt24 vt30 HS35 vt36 hc37) ?_)
  rintro _ W40 ⟨f38, rfl, L39, HS41⟩
  refine ⟨_, rfl, ?_⟩
  refine ⟨(Sg.g1 (Sx.of [[(b13, .cells #[.int .i64 0, .int .i64 0, .bool false] 44 (0, 0))]] (L27.trans (L33.trans L39)) HS41) (fun _ => St.only [] HS41 (L27.trans (L33.trans L39)))), ?_⟩
  have hq_ := bind_some h; clear h; obtain ⟨vt42, hc43, h⟩ := hq_
  refine takeGE 5 (by kernel_rfl) rfl (by kernel_rfl) (does_call (f := 104) (args := #[.agg #[.int .i64 vt36.Lo, .int .i64 vt36.Hi, .bool vt36.Unknown]]) (by kernel_rfl) (bound_Neg_Quanta.calls k vt36 HS41 vt42 hc43) ?_)
  rintro _ W46 ⟨f44, rfl, L45, HS47⟩
  refine ⟨_, rfl, ?_⟩
  refine ⟨(Sg.g1 (Sx.of [[(b13, .cells #[.int .i64 0, .int .i64 0, .bool false] 44 (0, 0))]] (L27.trans (L33.trans (L39.trans L45))) HS47) (fun _ => St.only [] HS47 (L27.trans (L33.trans (L39.trans L45))))), ?_⟩
  refine takeGE 6 (by kernel_rfl) rfl (by kernel_rfl) (does_store (n := 3) (vs := [.int .i64 vt42.Lo, .int .i64 vt42.Hi, .bool vt42.Unknown]) (cs' := #[.int .i64 vt42.Lo, .int .i64 vt42.Hi, .bool vt42.Unknown]) rfl (by kernel_rfl) (by kernel_rfl : _ = Value.pointer (some ⟨b13, 0, none⟩)) (by kernel_rfl : _ = Value.agg #[.int .i64 vt42.Lo, .int .i64 vt42.Hi, .bool vt42.Unknown]) rfl rfl (by intro u_ hu_; simp only [List.mem_cons, List.not_mem_nil, or_false] at hu_; rcases hu_ with rfl | rfl | rfl <;> rfl) HS47 (Nat.le_of_ble_eq_true rfl) (by kernel_rfl) ?_)
  intro W48 HS49
  refine ⟨(Sg.g1 (Sx.of [[(b13, .cells #[.int .i64 vt42.Lo, .int .i64 vt42.Hi, .bool vt42.Unknown] 44 (0, 0))]] (L27.trans (L33.trans (L39.trans L45))) HS49) (fun hl_ => Bool.noConfusion (show true = false from hl_))), ?_⟩
  refine doneG (by kernel_rfl) ?_ _
  refine hK18 _ _ ?_
  refine wp_ret ?_
  refine hret _ _ ?_
  refine ends (v := Value.agg #[.int .i64 vt42.Lo, .int .i64 vt42.Hi, .bool vt42.Unknown]) (results1 (q1 := .cell 4 44) (by kernel_rfl) (resN (n := 3) (cs := [.int .i64 vt42.Lo, .int .i64 vt42.Hi, .bool vt42.Unknown]) (by kernel_rfl : _ = Value.pointer (some ⟨b13, 0, none⟩)) Try.underlying44 rfl (by kernel_rfl) rfl (HS49.cells 0 3 _ rfl))) (by kernel_rfl) ?_
  have HS50 := HS49.drop
  have HS51 := HS50.drop
  have HS52 := HS51.drop
  injection h with h
  subst h
  exact ⟨f44, rfl, (L27.trans (L33.trans (L39.trans L45))), HS52⟩

end Go.Sp.T9
