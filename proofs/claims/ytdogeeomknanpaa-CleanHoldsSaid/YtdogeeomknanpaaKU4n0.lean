import Derived.Test.YtdogeeomknanpaaProg
import Derived.Test.YtdogeeomknanpaaSpCopy
import Derived.Test.YtdogeeomknanpaaFU4
import Derived.Test.YtdogeeomknanpaaSpNest
namespace Go.Sp.U4
open Go Go.Sp Go.Proofs
set_option linter.unusedVariables false
attribute [local irreducible] wpList AnyL Code.wp Calls Does
def ty_Stream : Ty S_Stream where
  sz := 2
  rep := fun f cs x => ∃ (A0 : Option Addr) (c0 : Nat), cs = [.slice A0 x.L.length c0, .int .i64 x.vat] ∧ SlR (tInt .i64) f A0 c0 x.L
  pos := by decide
  len := by rintro f cs x ⟨A0, c0, rfl, h0⟩; rfl
  mono := by rintro f g cs x hl ⟨A0, c0, rfl, h0⟩; exact ⟨A0, c0, rfl, h0.mono hl⟩
  one := by
    rintro f cs x ⟨A0, c0, rfl, h0⟩ v hv
    simp only [List.mem_cons, List.not_mem_nil, or_false] at hv
    rcases hv with rfl | rfl <;> rfl
def ty_Bound : Ty S_Bound where
  sz := 3
  rep := fun f cs x => cs = [.int .i64 x.Lo, .int .i64 x.Hi, .bool x.Unknown]
  pos := by decide
  len := by rintro f cs x rfl; rfl
  mono := by rintro f g cs x hl rfl; exact rfl
  one := by
    rintro f cs x rfl v hv
    simp only [List.mem_cons, List.not_mem_nil, or_false] at hv
    rcases hv with rfl | rfl | rfl <;> rfl
def ty_Cells : Ty S_Cells where
  sz := 3
  rep := fun f cs x => ∃ (A2 : Option Addr) (c2 : Nat), cs = [.int .i64 x.W, .int .i64 x.H, .slice A2 x.At.length c2] ∧ SlR ty_Bound f A2 c2 x.At
  pos := by decide
  len := by rintro f cs x ⟨A2, c2, rfl, h2⟩; rfl
  mono := by rintro f g cs x hl ⟨A2, c2, rfl, h2⟩; exact ⟨A2, c2, rfl, h2.mono hl⟩
  one := by
    rintro f cs x ⟨A2, c2, rfl, h2⟩ v hv
    simp only [List.mem_cons, List.not_mem_nil, or_false] at hv
    rcases hv with rfl | rfl | rfl <;> rfl
theorem inf34 : Inf Try.prog 34 3 40 (.agg #[.int .i64 0, .int .i64 0, .slice none 0 0]) := .mk' (by kernel_rfl) rfl
theorem inf42 : Inf Try.prog 42 1 8 (.int .i64 0) := .mk' (by kernel_rfl) rfl
theorem inf44 : Inf Try.prog 44 3 24 (.agg #[.int .i64 0, .int .i64 0, .bool false]) := .mk' (by kernel_rfl) rfl
theorem inf22 : Inf Try.prog 22 1 24 (.slice none 0 0) := .mk' (by kernel_rfl) rfl
theorem inf3 : Inf Try.prog 3 1 8 (.int .i64 0) := .mk' (by kernel_rfl) rfl

set_option maxRecDepth 100000 in
set_option maxHeartbeats 4000000 in
theorem spymake_Below.calls (k : Nat)  (x1 : Int) (n2 : Int) {t w : World} {f : FM} {H : List Seg} (HS : St t w f (H)) (r1 : Int) (h : spymake_Below k x1 n2 = some r1) :
    Calls Try.prog 10 #[.int .i64 x1, .int .i64 n2] w (fun e w' => ∃ (g : FM), e = .returned (Value.int .i64 r1) ∧ FM.le f g ∧ St t w' g (H)) := by
  unfold spymake_Below at h
  refine enter Try.func10 rfl (tm := #[iV x1, iV n2, uV, uV, uV, uV, uV, uV, uV, uV, uV, uV, uV, uV, uV, uV]) (by kernel_rfl) ?_
  intro B hret hnor hnp
  refine wp_seq_k (fun K3 hK4 => ?_)
  refine wp_region_lit ?_
  refine seqS1 (a' := ⟨#[iV x1, iV n2, uV, uV, iV 0, uV, uV, uV, uV, uV, uV, uV, uV, uV, uV, uV], []⟩) (by kernel_rfl) ?_
  refine wpList_nil ?_
  refine hK4 _ _ ?_
  refine wp_seq_k (fun K5 hK6 => ?_)
  refine wp_seq_k (fun K7 hK8 => ?_)
  refine wp_region_lit ?_
  refine seqS2 (a' := ⟨#[iV x1, iV n2, uV, uV, iV 0, iV n2, .bool (decide (n2 < 1)), uV, uV, uV, uV, uV, uV, uV, uV, uV], []⟩) (by kernel_rfl) ?_
  refine wpList_nil ?_
  refine hK8 _ _ ?_
  have hq_ := ite_some h; clear h; rcases hq_ with ⟨c10, h⟩ | ⟨c10, h⟩
  · have c10 : n2 < 1 := c10
    refine wpRwI 6 (x := (decide (n2 < 1))) (v := true) (by kernel_rfl) (decide_eq_true c10) ?_
    refine condT (by kernel_rfl) ?_
    refine wp_seq_k (fun K11 hK12 => ?_)
    refine wp_region_lit ?_
    refine seqS1 (a' := ⟨#[iV x1, iV n2, uV, uV, iV 0, iV n2, .bool true, uV, uV, uV, uV, uV, uV, uV, uV, uV], []⟩) (by kernel_rfl) ?_
    refine wpList_nil ?_
    refine hK12 _ _ ?_
    refine wp_ret ?_
    refine hret _ _ ?_
    refine ends_still (v := Value.int .i64 0) (by kernel_rfl) (by kernel_rfl) ?_
    injection h with h
    subst h
    exact ⟨f, rfl, FM.le.refl _, HS⟩
  · have c10 : ¬ (n2 < 1) := c10
    refine wpRwI 6 (x := (decide (n2 < 1))) (v := false) (by kernel_rfl) (decide_eq_false c10) ?_
    refine condF (by kernel_rfl) ?_
    refine wp_skip ?_
    refine hK6 _ _ ?_
    refine wp_seq_k (fun K13 hK14 => ?_)
    refine wp_region_lit ?_
    have hq_ := guard_some h; clear h; obtain ⟨c15, h⟩ := hq_
    have c15 : ¬ (n2 = 0) := c15
    refine seqL2 (by kernel_rfl) ?_
    refine seqK rfl (does_run (run_rem rfl (by kernel_rfl : _ = Value.int .i64 x1) (by kernel_rfl : _ = Value.int .i64 n2) c15 w) ?_)
    refine seqS1 (a' := ⟨#[iV (Int.tmod x1 n2), iV n2, uV, uV, iV 0, iV n2, .bool false, iV x1, iV n2, iV (Int.tmod x1 n2), uV, uV, uV, uV, uV, uV], []⟩) (by kernel_rfl) ?_
    refine wpList_nil ?_
    refine hK14 _ _ ?_
    refine wp_seq_k (fun K16 hK17 => ?_)
    refine wp_seq_k (fun K18 hK19 => ?_)
    refine wp_region_lit ?_
    refine seqS2 (a' := ⟨#[iV (Int.tmod x1 n2), iV n2, uV, uV, iV 0, iV n2, .bool false, iV x1, iV n2, iV (Int.tmod x1 n2), iV (Int.tmod x1 n2), .bool (decide ((Int.tmod x1 n2) < 0)), uV, uV, uV, uV], []⟩) (by kernel_rfl) ?_
    refine wpList_nil ?_
    refine hK19 _ _ ?_
    have hq_ := ite_some h; clear h; rcases hq_ with ⟨c21, h⟩ | ⟨c21, h⟩
    · have c21 : (Int.tmod x1 n2) < 0 := c21
      refine wpRwI 11 (x := (decide ((Int.tmod x1 n2) < 0))) (v := true) (by kernel_rfl) (decide_eq_true c21) ?_
      refine condT (by kernel_rfl) ?_
      refine wp_region_lit ?_
      refine seqS4 (a' := ⟨#[iV (w64 ((Int.tmod x1 n2) + n2)), iV n2, uV, uV, iV 0, iV n2, .bool false, iV x1, iV n2, iV (Int.tmod x1 n2), iV (Int.tmod x1 n2), .bool true, iV (Int.tmod x1 n2), iV n2, iV (w64 ((Int.tmod x1 n2) + n2)), uV], []⟩) (by kernel_rfl) ?_
      refine wpList_nil ?_
      refine hK17 _ _ ?_
      refine wp_seq_k (fun K22 hK23 => ?_)
      refine wp_region_lit ?_
      refine seqS2 (a' := ⟨#[iV (w64 ((Int.tmod x1 n2) + n2)), iV n2, uV, uV, iV (w64 ((Int.tmod x1 n2) + n2)), iV n2, .bool false, iV x1, iV n2, iV (Int.tmod x1 n2), iV (Int.tmod x1 n2), .bool true, iV (Int.tmod x1 n2), iV n2, iV (w64 ((Int.tmod x1 n2) + n2)), iV (w64 ((Int.tmod x1 n2) + n2))], []⟩) (by kernel_rfl) ?_
      refine wpList_nil ?_
      refine hK23 _ _ ?_
      refine wp_ret ?_
      refine hret _ _ ?_
      refine ends_still (v := Value.int .i64 (w64 ((Int.tmod x1 n2) + n2))) (by kernel_rfl) (by kernel_rfl) ?_
      injection h with h
      subst h
      exact ⟨f, rfl, FM.le.refl _, HS⟩
    · have c21 : ¬ ((Int.tmod x1 n2) < 0) := c21
      refine wpRwI 11 (x := (decide ((Int.tmod x1 n2) < 0))) (v := false) (by kernel_rfl) (decide_eq_false c21) ?_
      refine condF (by kernel_rfl) ?_
      refine wp_skip ?_
      refine hK17 _ _ ?_
      refine wp_seq_k (fun K24 hK25 => ?_)
      refine wp_region_lit ?_
      refine seqS2 (a' := ⟨#[iV (Int.tmod x1 n2), iV n2, uV, uV, iV (Int.tmod x1 n2), iV n2, .bool false, iV x1, iV n2, iV (Int.tmod x1 n2), iV (Int.tmod x1 n2), .bool false, uV, uV, uV, iV (Int.tmod x1 n2)], []⟩) (by kernel_rfl) ?_
      refine wpList_nil ?_
      refine hK25 _ _ ?_
      refine wp_ret ?_
      refine hret _ _ ?_
      refine ends_still (v := Value.int .i64 (Int.tmod x1 n2)) (by kernel_rfl) (by kernel_rfl) ?_
      injection h with h
      subst h
      exact ⟨f, rfl, FM.le.refl _, HS⟩

set_option maxRecDepth 100000 in
set_option maxHeartbeats 4000000 in
theorem spymake_Stream_Next.calls (k : Nat) (b1 : Nat) (A4 : Option Addr) (c5 : Nat) (s3 : S_Stream) (n7 : Int) {t w : World} {f : FM} {H : List Seg} (HS : St t w f ([(b1, .cells #[.slice A4 s3.L.length c5, .int .i64 s3.vat] 25 (0, 0))] :: H)) (HR6 : SlR (tInt .i64) f A4 c5 s3.L) (r1 : Int) (r2 : Int) (h : spymake_Stream_Next k s3 n7 = some (r1, r2)) :
    Calls Try.prog 12 #[.pointer (some ⟨b1, 0, none⟩), .int .i64 n7] w (fun e w' => ∃ (g : FM), e = .returned (Value.int .i64 r1) ∧ FM.le f g ∧ St t w' g ([(b1, .cells #[.slice A4 s3.L.length c5, .int .i64 r2] 25 (0, 0))] :: H)) := by
  unfold spymake_Stream_Next at h
  refine enter Try.func12 rfl (tm := #[.pointer (some ⟨b1, 0, none⟩), iV n7, uV, uV, uV, uV, uV, uV, uV, uV, uV, uV, uV, uV, uV, uV, uV, uV, uV, uV, uV, uV, uV, uV, uV, uV, uV, uV, uV, uV, uV, uV, uV, uV, uV, uV, uV, uV, uV, uV, uV, uV, uV, uV, uV, uV, uV, uV, uV, uV, uV, uV, uV, uV, uV, uV, uV, uV, uV, uV, uV, uV, uV, uV]) (by kernel_rfl) ?_
  intro B hret hnor hnp
  refine wp_seq_k (fun K8 hK9 => ?_)
  refine wp_region_lit ?_
  refine seqS1 (a' := ⟨#[.pointer (some ⟨b1, 0, none⟩), iV n7, uV, uV, iV 0, uV, uV, uV, uV, uV, uV, uV, uV, uV, uV, uV, uV, uV, uV, uV, uV, uV, uV, uV, uV, uV, uV, uV, uV, uV, uV, uV, uV, uV, uV, uV, uV, uV, uV, uV, uV, uV, uV, uV, uV, uV, uV, uV, uV, uV, uV, uV, uV, uV, uV, uV, uV, uV, uV, uV, uV, uV, uV, uV], []⟩) (by kernel_rfl) ?_
  refine wpList_nil ?_
  refine hK9 _ _ ?_
  refine wp_seq_k (fun K10 hK11 => ?_)
  refine wp_region_lit ?_
  refine seqL3 (by kernel_rfl) ?_
  refine seqK rfl (does_run (run_load rfl Try.underlying3 rfl (by kernel_rfl : _ = Value.pointer (some ⟨b1, 1, none⟩)) (HS.cell 1)) ?_)
  refine seqL3 (by kernel_rfl) ?_
  refine seqK rfl (does_store (n := 1) (vs := [.int .i64 (w64 (s3.vat + 1))]) (cs' := #[.slice A4 s3.L.length c5, .int .i64 (w64 (s3.vat + 1))]) rfl (by kernel_rfl) (by kernel_rfl : _ = Value.pointer (some ⟨b1, 1, none⟩)) (by kernel_rfl : _ = Value.int .i64 (w64 (s3.vat + 1))) rfl rfl (by intro u_ hu_; simp only [List.mem_cons, List.not_mem_nil, or_false] at hu_; subst hu_; rfl) HS (Nat.le_of_ble_eq_true rfl) (by kernel_rfl) ?_)
  intro W12 HS13
  refine wpList_nil ?_
  refine hK11 _ _ ?_
  refine wp_seq_k (fun K14 hK15 => ?_)
  refine wp_seq_k (fun K16 hK17 => ?_)
  refine wp_region_lit ?_
  refine seqL3 (by kernel_rfl) ?_
  refine seqK rfl (does_run (run_load rfl Try.underlying22 rfl (by kernel_rfl : _ = Value.pointer (some ⟨b1, 0, none⟩)) (HS13.cell 0)) ?_)
  refine seqS2 (a' := ⟨#[.pointer (some ⟨b1, 0, none⟩), iV n7, uV, uV, iV 0, uV, uV, .pointer (some ⟨b1, 0, none⟩), .pointer (some ⟨b1, 0, none⟩), .pointer (some ⟨b1, 1, none⟩), iV s3.vat, iV (w64 (s3.vat + 1)), .pointer (some ⟨b1, 0, none⟩), .pointer (some ⟨b1, 1, none⟩), .pointer (some ⟨b1, 0, none⟩), .pointer (some ⟨b1, 0, none⟩), .pointer (some ⟨b1, 0, none⟩), .slice A4 s3.L.length c5, iV (s3.L.length : Int), .bool ((s3.L.length : Int) == 0), uV, uV, uV, uV, uV, uV, uV, uV, uV, uV, uV, uV, uV, uV, uV, uV, uV, uV, uV, uV, uV, uV, uV, uV, uV, uV, uV, uV, uV, uV, uV, uV, uV, uV, uV, uV, uV, uV, uV, uV, uV, uV, uV, uV], []⟩) (by kernel_rfl) ?_
  refine wpList_nil ?_
  refine hK17 _ _ ?_
  have hq_ := ite_some h; clear h; rcases hq_ with ⟨c19, h⟩ | ⟨c19, h⟩
  · have c19 : (s3.L.length : Int) = 0 := c19
    refine wpRwI 19 (x := ((s3.L.length : Int) == 0)) (v := true) (by kernel_rfl) (beq_iff_eq.mpr c19) ?_
    refine condT (by kernel_rfl) ?_
    refine wp_seq_k (fun K20 hK21 => ?_)
    refine wp_region_lit ?_
    refine seqL3 (by kernel_rfl) ?_
    refine seqK rfl (does_run (run_load rfl Try.underlying3 rfl (by kernel_rfl : _ = Value.pointer (some ⟨b1, 1, none⟩)) (HS13.cell 1)) ?_)
    have hq_ := bind_some h; clear h; obtain ⟨vt22, hc23, h⟩ := hq_
    refine seqL2 (by kernel_rfl) ?_
    refine seqK rfl (does_call (f := 10) (args := #[.int .i64 (w64 ((w64 (s3.vat + 1)) * 7919)), .int .i64 n7]) (by kernel_rfl) (spymake_Below.calls k (w64 ((w64 (s3.vat + 1)) * 7919)) n7 HS13 vt22 hc23) ?_)
    rintro _ W26 ⟨f24, rfl, L25, HS27⟩
    refine ⟨_, rfl, ?_⟩
    refine seqS1 (a' := ⟨#[.pointer (some ⟨b1, 0, none⟩), iV n7, uV, uV, iV vt22, uV, uV, .pointer (some ⟨b1, 0, none⟩), .pointer (some ⟨b1, 0, none⟩), .pointer (some ⟨b1, 1, none⟩), iV s3.vat, iV (w64 (s3.vat + 1)), .pointer (some ⟨b1, 0, none⟩), .pointer (some ⟨b1, 1, none⟩), .pointer (some ⟨b1, 0, none⟩), .pointer (some ⟨b1, 0, none⟩), .pointer (some ⟨b1, 0, none⟩), .slice A4 s3.L.length c5, iV (s3.L.length : Int), .bool true, .pointer (some ⟨b1, 0, none⟩), .pointer (some ⟨b1, 0, none⟩), .pointer (some ⟨b1, 1, none⟩), iV (w64 (s3.vat + 1)), iV (w64 ((w64 (s3.vat + 1)) * 7919)), iV n7, iV vt22, uV, uV, uV, uV, uV, uV, uV, uV, uV, uV, uV, uV, uV, uV, uV, uV, uV, uV, uV, uV, uV, uV, uV, uV, uV, uV, uV, uV, uV, uV, uV, uV, uV, uV, uV, uV, uV], []⟩) (by kernel_rfl) ?_
    refine wpList_nil ?_
    refine hK21 _ _ ?_
    refine wp_ret ?_
    refine hret _ _ ?_
    refine ends_still (v := Value.int .i64 vt22) (by kernel_rfl) (by kernel_rfl) ?_
    injection h with h
    injection h with h0_ h
    subst h0_ h
    exact ⟨f24, rfl, L25, HS27⟩
  · have c19 : ¬ ((s3.L.length : Int) = 0) := c19
    refine wpRwI 19 (x := ((s3.L.length : Int) == 0)) (v := false) (by kernel_rfl) (beq_eq_false_iff_ne.mpr c19) ?_
    refine condF (by kernel_rfl) ?_
    refine wp_skip ?_
    refine hK15 _ _ ?_
    refine wp_seq_k (fun K28 hK29 => ?_)
    refine heldG (S := Sg t f ([(b1, .cells #[.slice A4 s3.L.length c5, .int .i64 (w64 (s3.vat + 1))] 25 (0, 0))] :: H) []) (n := 12) (by kernel_rfl) rfl HS13 ?_
    intro W30 HS31
    refine takeG [0, 1, 2] (n := 12) (fuel := 9) (l' := #[true, true, true, false, false, false, false, false, false, false, false, false]) (a' := ⟨#[.pointer (some ⟨b1, 0, none⟩), iV n7, uV, uV, iV 0, uV, uV, .pointer (some ⟨b1, 0, none⟩), .pointer (some ⟨b1, 0, none⟩), .pointer (some ⟨b1, 1, none⟩), iV s3.vat, iV (w64 (s3.vat + 1)), .pointer (some ⟨b1, 0, none⟩), .pointer (some ⟨b1, 1, none⟩), .pointer (some ⟨b1, 0, none⟩), .pointer (some ⟨b1, 0, none⟩), .pointer (some ⟨b1, 0, none⟩), .slice A4 s3.L.length c5, iV (s3.L.length : Int), .bool false, uV, uV, uV, uV, uV, uV, uV, .pointer (some ⟨b1, 0, none⟩), .pointer (some ⟨b1, 0, none⟩), .pointer (some ⟨b1, 1, none⟩), uV, uV, uV, uV, uV, uV, uV, uV, uV, uV, uV, uV, uV, uV, uV, uV, uV, uV, uV, uV, uV, uV, uV, uV, uV, uV, uV, uV, uV, uV, uV, uV, uV, uV], []⟩) rfl (by kernel_rfl) (by kernel_rfl) (by kernel_rfl) hnp (Sg.g0 (Sx.of [] (FM.le.refl _) HS31)) ?_
    refine takeGQ 3 [] rfl (by kernel_rfl) (by kernel_rfl) (by kernel_rfl) (by kernel_rfl) (by kernel_rfl) (by kernel_rfl) hnp (Sg.g0 (Sx.of [] (FM.le.refl _) HS31)) (fun w_ hw_ => by obtain ⟨g_, hl_, hS_⟩ := hw_.st; exact run_load rfl Try.underlying3 rfl (by kernel_rfl : _ = Value.pointer (some ⟨b1, 1, none⟩)) (hS_.cell 1)) ?_
    refine takeG [4, 5, 6, 7] (n := 8) (fuel := 4) (l' := #[true, true, true, true, true, true, true, true, false, false, false, false]) (a' := ⟨#[.pointer (some ⟨b1, 0, none⟩), iV n7, uV, uV, iV 0, uV, uV, .pointer (some ⟨b1, 0, none⟩), .pointer (some ⟨b1, 0, none⟩), .pointer (some ⟨b1, 1, none⟩), iV s3.vat, iV (w64 (s3.vat + 1)), .pointer (some ⟨b1, 0, none⟩), .pointer (some ⟨b1, 1, none⟩), .pointer (some ⟨b1, 0, none⟩), .pointer (some ⟨b1, 0, none⟩), .pointer (some ⟨b1, 0, none⟩), .slice A4 s3.L.length c5, iV (s3.L.length : Int), .bool false, uV, uV, uV, uV, uV, uV, uV, .pointer (some ⟨b1, 0, none⟩), .pointer (some ⟨b1, 0, none⟩), .pointer (some ⟨b1, 1, none⟩), iV (w64 (s3.vat + 1)), iV (w64 ((w64 (s3.vat + 1)) - 1)), .pointer (some ⟨b1, 0, none⟩), .pointer (some ⟨b1, 0, none⟩), .pointer (some ⟨b1, 0, none⟩), uV, uV, uV, uV, uV, uV, uV, uV, uV, uV, uV, uV, uV, uV, uV, uV, uV, uV, uV, uV, uV, uV, uV, uV, uV, uV, uV, uV, uV], []⟩) rfl (by kernel_rfl) (by kernel_rfl) (by kernel_rfl) hnp (Sg.g0 (Sx.of [] (FM.le.refl _) HS31)) ?_
    refine takeGQ 8 [] rfl (by kernel_rfl) (by kernel_rfl) (by kernel_rfl) (by kernel_rfl) (by kernel_rfl) (by kernel_rfl) hnp (Sg.g0 (Sx.of [] (FM.le.refl _) HS31)) (fun w_ hw_ => by obtain ⟨g_, hl_, hS_⟩ := hw_.st; exact run_load rfl Try.underlying22 rfl (by kernel_rfl : _ = Value.pointer (some ⟨b1, 0, none⟩)) (hS_.cell 0)) ?_
    have hq_ := guard_some h; clear h; obtain ⟨c32, h⟩ := hq_
    have c32 : ¬ ((s3.L.length : Int) = 0) := c32
    refine takeG [9] (n := 3) (fuel := 2) (l' := #[true, true, true, true, true, true, true, true, true, true, false, false]) (a' := ⟨#[.pointer (some ⟨b1, 0, none⟩), iV n7, uV, uV, iV 0, uV, uV, .pointer (some ⟨b1, 0, none⟩), .pointer (some ⟨b1, 0, none⟩), .pointer (some ⟨b1, 1, none⟩), iV s3.vat, iV (w64 (s3.vat + 1)), .pointer (some ⟨b1, 0, none⟩), .pointer (some ⟨b1, 1, none⟩), .pointer (some ⟨b1, 0, none⟩), .pointer (some ⟨b1, 0, none⟩), .pointer (some ⟨b1, 0, none⟩), .slice A4 s3.L.length c5, iV (s3.L.length : Int), .bool false, uV, uV, uV, uV, uV, uV, uV, .pointer (some ⟨b1, 0, none⟩), .pointer (some ⟨b1, 0, none⟩), .pointer (some ⟨b1, 1, none⟩), iV (w64 (s3.vat + 1)), iV (w64 ((w64 (s3.vat + 1)) - 1)), .pointer (some ⟨b1, 0, none⟩), .pointer (some ⟨b1, 0, none⟩), .pointer (some ⟨b1, 0, none⟩), .slice A4 s3.L.length c5, iV (s3.L.length : Int), uV, uV, uV, uV, uV, uV, uV, uV, uV, uV, uV, uV, uV, uV, uV, uV, uV, uV, uV, uV, uV, uV, uV, uV, uV, uV, uV], []⟩) rfl (by kernel_rfl) (by kernel_rfl) (by kernel_rfl) hnp (Sg.g0 (Sx.of [] (FM.le.refl _) HS31)) ?_
    refine takeGQ 10 [] rfl (by kernel_rfl) (by kernel_rfl) (by kernel_rfl) (by kernel_rfl) (by kernel_rfl) (by kernel_rfl) hnp (Sg.g0 (Sx.of [] (FM.le.refl _) HS31)) (fun w_ hw_ => by obtain ⟨g_, hl_, hS_⟩ := hw_.st; exact run_rem rfl (by kernel_rfl : _ = Value.int .i64 (w64 ((w64 (s3.vat + 1)) - 1))) (by kernel_rfl : _ = Value.int .i64 (s3.L.length : Int)) c32 w_) ?_
    refine takeG [11] (n := 1) (fuel := 0) (l' := #[true, true, true, true, true, true, true, true, true, true, true, true]) (a' := ⟨#[.pointer (some ⟨b1, 0, none⟩), iV n7, uV, uV, iV 0, iV (Int.tmod (w64 ((w64 (s3.vat + 1)) - 1)) (s3.L.length : Int)), uV, .pointer (some ⟨b1, 0, none⟩), .pointer (some ⟨b1, 0, none⟩), .pointer (some ⟨b1, 1, none⟩), iV s3.vat, iV (w64 (s3.vat + 1)), .pointer (some ⟨b1, 0, none⟩), .pointer (some ⟨b1, 1, none⟩), .pointer (some ⟨b1, 0, none⟩), .pointer (some ⟨b1, 0, none⟩), .pointer (some ⟨b1, 0, none⟩), .slice A4 s3.L.length c5, iV (s3.L.length : Int), .bool false, uV, uV, uV, uV, uV, uV, uV, .pointer (some ⟨b1, 0, none⟩), .pointer (some ⟨b1, 0, none⟩), .pointer (some ⟨b1, 1, none⟩), iV (w64 (s3.vat + 1)), iV (w64 ((w64 (s3.vat + 1)) - 1)), .pointer (some ⟨b1, 0, none⟩), .pointer (some ⟨b1, 0, none⟩), .pointer (some ⟨b1, 0, none⟩), .slice A4 s3.L.length c5, iV (s3.L.length : Int), iV (Int.tmod (w64 ((w64 (s3.vat + 1)) - 1)) (s3.L.length : Int)), uV, uV, uV, uV, uV, uV, uV, uV, uV, uV, uV, uV, uV, uV, uV, uV, uV, uV, uV, uV, uV, uV, uV, uV, uV, uV], []⟩) rfl (by kernel_rfl) (by kernel_rfl) (by kernel_rfl) hnp (Sg.g0 (Sx.of [] (FM.le.refl _) HS31)) ?_
    refine doneG (by kernel_rfl) ?_ _
    refine hK29 _ _ ?_
    refine wp_seq_k (fun K33 hK34 => ?_)
    refine heldG (S := Sg t f ([(b1, .cells #[.slice A4 s3.L.length c5, .int .i64 (w64 (s3.vat + 1))] 25 (0, 0))] :: H) []) (n := 12) (by kernel_rfl) rfl HS31 ?_
    intro W35 HS36
    refine takeG [0, 1, 2] (n := 12) (fuel := 9) (l' := #[true, true, true, false, false, false, false, false, false, false, false, false]) (a' := ⟨#[.pointer (some ⟨b1, 0, none⟩), iV n7, uV, uV, iV 0, iV (Int.tmod (w64 ((w64 (s3.vat + 1)) - 1)) (s3.L.length : Int)), uV, .pointer (some ⟨b1, 0, none⟩), .pointer (some ⟨b1, 0, none⟩), .pointer (some ⟨b1, 1, none⟩), iV s3.vat, iV (w64 (s3.vat + 1)), .pointer (some ⟨b1, 0, none⟩), .pointer (some ⟨b1, 1, none⟩), .pointer (some ⟨b1, 0, none⟩), .pointer (some ⟨b1, 0, none⟩), .pointer (some ⟨b1, 0, none⟩), .slice A4 s3.L.length c5, iV (s3.L.length : Int), .bool false, uV, uV, uV, uV, uV, uV, uV, .pointer (some ⟨b1, 0, none⟩), .pointer (some ⟨b1, 0, none⟩), .pointer (some ⟨b1, 1, none⟩), iV (w64 (s3.vat + 1)), iV (w64 ((w64 (s3.vat + 1)) - 1)), .pointer (some ⟨b1, 0, none⟩), .pointer (some ⟨b1, 0, none⟩), .pointer (some ⟨b1, 0, none⟩), .slice A4 s3.L.length c5, iV (s3.L.length : Int), iV (Int.tmod (w64 ((w64 (s3.vat + 1)) - 1)) (s3.L.length : Int)), .pointer (some ⟨b1, 0, none⟩), .pointer (some ⟨b1, 0, none⟩), .pointer (some ⟨b1, 1, none⟩), uV, uV, uV, uV, uV, uV, uV, uV, uV, uV, uV, uV, uV, uV, uV, uV, uV, uV, uV, uV, uV, uV, uV], []⟩) rfl (by kernel_rfl) (by kernel_rfl) (by kernel_rfl) hnp (Sg.g0 (Sx.of [] (FM.le.refl _) HS36)) ?_
    refine takeGQ 3 [] rfl (by kernel_rfl) (by kernel_rfl) (by kernel_rfl) (by kernel_rfl) (by kernel_rfl) (by kernel_rfl) hnp (Sg.g0 (Sx.of [] (FM.le.refl _) HS36)) (fun w_ hw_ => by obtain ⟨g_, hl_, hS_⟩ := hw_.st; exact run_load rfl Try.underlying3 rfl (by kernel_rfl : _ = Value.pointer (some ⟨b1, 1, none⟩)) (hS_.cell 1)) ?_
    refine takeG [4, 5, 6, 7] (n := 8) (fuel := 4) (l' := #[true, true, true, true, true, true, true, true, false, false, false, false]) (a' := ⟨#[.pointer (some ⟨b1, 0, none⟩), iV n7, uV, uV, iV 0, iV (Int.tmod (w64 ((w64 (s3.vat + 1)) - 1)) (s3.L.length : Int)), uV, .pointer (some ⟨b1, 0, none⟩), .pointer (some ⟨b1, 0, none⟩), .pointer (some ⟨b1, 1, none⟩), iV s3.vat, iV (w64 (s3.vat + 1)), .pointer (some ⟨b1, 0, none⟩), .pointer (some ⟨b1, 1, none⟩), .pointer (some ⟨b1, 0, none⟩), .pointer (some ⟨b1, 0, none⟩), .pointer (some ⟨b1, 0, none⟩), .slice A4 s3.L.length c5, iV (s3.L.length : Int), .bool false, uV, uV, uV, uV, uV, uV, uV, .pointer (some ⟨b1, 0, none⟩), .pointer (some ⟨b1, 0, none⟩), .pointer (some ⟨b1, 1, none⟩), iV (w64 (s3.vat + 1)), iV (w64 ((w64 (s3.vat + 1)) - 1)), .pointer (some ⟨b1, 0, none⟩), .pointer (some ⟨b1, 0, none⟩), .pointer (some ⟨b1, 0, none⟩), .slice A4 s3.L.length c5, iV (s3.L.length : Int), iV (Int.tmod (w64 ((w64 (s3.vat + 1)) - 1)) (s3.L.length : Int)), .pointer (some ⟨b1, 0, none⟩), .pointer (some ⟨b1, 0, none⟩), .pointer (some ⟨b1, 1, none⟩), iV (w64 (s3.vat + 1)), iV (w64 ((w64 (s3.vat + 1)) - 1)), .pointer (some ⟨b1, 0, none⟩), .pointer (some ⟨b1, 0, none⟩), .pointer (some ⟨b1, 0, none⟩), uV, uV, uV, uV, uV, uV, uV, uV, uV, uV, uV, uV, uV, uV, uV, uV, uV, uV], []⟩) rfl (by kernel_rfl) (by kernel_rfl) (by kernel_rfl) hnp (Sg.g0 (Sx.of [] (FM.le.refl _) HS36)) ?_
    refine takeGQ 8 [] rfl (by kernel_rfl) (by kernel_rfl) (by kernel_rfl) (by kernel_rfl) (by kernel_rfl) (by kernel_rfl) hnp (Sg.g0 (Sx.of [] (FM.le.refl _) HS36)) (fun w_ hw_ => by obtain ⟨g_, hl_, hS_⟩ := hw_.st; exact run_load rfl Try.underlying22 rfl (by kernel_rfl : _ = Value.pointer (some ⟨b1, 0, none⟩)) (hS_.cell 0)) ?_
    refine takeG [9] (n := 3) (fuel := 2) (l' := #[true, true, true, true, true, true, true, true, true, true, false, false]) (a' := ⟨#[.pointer (some ⟨b1, 0, none⟩), iV n7, uV, uV, iV 0, iV (Int.tmod (w64 ((w64 (s3.vat + 1)) - 1)) (s3.L.length : Int)), uV, .pointer (some ⟨b1, 0, none⟩), .pointer (some ⟨b1, 0, none⟩), .pointer (some ⟨b1, 1, none⟩), iV s3.vat, iV (w64 (s3.vat + 1)), .pointer (some ⟨b1, 0, none⟩), .pointer (some ⟨b1, 1, none⟩), .pointer (some ⟨b1, 0, none⟩), .pointer (some ⟨b1, 0, none⟩), .pointer (some ⟨b1, 0, none⟩), .slice A4 s3.L.length c5, iV (s3.L.length : Int), .bool false, uV, uV, uV, uV, uV, uV, uV, .pointer (some ⟨b1, 0, none⟩), .pointer (some ⟨b1, 0, none⟩), .pointer (some ⟨b1, 1, none⟩), iV (w64 (s3.vat + 1)), iV (w64 ((w64 (s3.vat + 1)) - 1)), .pointer (some ⟨b1, 0, none⟩), .pointer (some ⟨b1, 0, none⟩), .pointer (some ⟨b1, 0, none⟩), .slice A4 s3.L.length c5, iV (s3.L.length : Int), iV (Int.tmod (w64 ((w64 (s3.vat + 1)) - 1)) (s3.L.length : Int)), .pointer (some ⟨b1, 0, none⟩), .pointer (some ⟨b1, 0, none⟩), .pointer (some ⟨b1, 1, none⟩), iV (w64 (s3.vat + 1)), iV (w64 ((w64 (s3.vat + 1)) - 1)), .pointer (some ⟨b1, 0, none⟩), .pointer (some ⟨b1, 0, none⟩), .pointer (some ⟨b1, 0, none⟩), .slice A4 s3.L.length c5, iV (s3.L.length : Int), uV, uV, uV, uV, uV, uV, uV, uV, uV, uV, uV, uV, uV, uV, uV, uV], []⟩) rfl (by kernel_rfl) (by kernel_rfl) (by kernel_rfl) hnp (Sg.g0 (Sx.of [] (FM.le.refl _) HS36)) ?_
    refine takeGQ 10 [] rfl (by kernel_rfl) (by kernel_rfl) (by kernel_rfl) (by kernel_rfl) (by kernel_rfl) (by kernel_rfl) hnp (Sg.g0 (Sx.of [] (FM.le.refl _) HS36)) (fun w_ hw_ => by obtain ⟨g_, hl_, hS_⟩ := hw_.st; exact run_div rfl (by kernel_rfl : _ = Value.int .i64 (w64 ((w64 (s3.vat + 1)) - 1))) (by kernel_rfl : _ = Value.int .i64 (s3.L.length : Int)) c32 w_) ?_
    refine takeG [11] (n := 1) (fuel := 0) (l' := #[true, true, true, true, true, true, true, true, true, true, true, true]) (a' := ⟨#[.pointer (some ⟨b1, 0, none⟩), iV n7, uV, uV, iV 0, iV (Int.tmod (w64 ((w64 (s3.vat + 1)) - 1)) (s3.L.length : Int)), iV (w64 (Int.tdiv (w64 ((w64 (s3.vat + 1)) - 1)) (s3.L.length : Int))), .pointer (some ⟨b1, 0, none⟩), .pointer (some ⟨b1, 0, none⟩), .pointer (some ⟨b1, 1, none⟩), iV s3.vat, iV (w64 (s3.vat + 1)), .pointer (some ⟨b1, 0, none⟩), .pointer (some ⟨b1, 1, none⟩), .pointer (some ⟨b1, 0, none⟩), .pointer (some ⟨b1, 0, none⟩), .pointer (some ⟨b1, 0, none⟩), .slice A4 s3.L.length c5, iV (s3.L.length : Int), .bool false, uV, uV, uV, uV, uV, uV, uV, .pointer (some ⟨b1, 0, none⟩), .pointer (some ⟨b1, 0, none⟩), .pointer (some ⟨b1, 1, none⟩), iV (w64 (s3.vat + 1)), iV (w64 ((w64 (s3.vat + 1)) - 1)), .pointer (some ⟨b1, 0, none⟩), .pointer (some ⟨b1, 0, none⟩), .pointer (some ⟨b1, 0, none⟩), .slice A4 s3.L.length c5, iV (s3.L.length : Int), iV (Int.tmod (w64 ((w64 (s3.vat + 1)) - 1)) (s3.L.length : Int)), .pointer (some ⟨b1, 0, none⟩), .pointer (some ⟨b1, 0, none⟩), .pointer (some ⟨b1, 1, none⟩), iV (w64 (s3.vat + 1)), iV (w64 ((w64 (s3.vat + 1)) - 1)), .pointer (some ⟨b1, 0, none⟩), .pointer (some ⟨b1, 0, none⟩), .pointer (some ⟨b1, 0, none⟩), .slice A4 s3.L.length c5, iV (s3.L.length : Int), iV (w64 (Int.tdiv (w64 ((w64 (s3.vat + 1)) - 1)) (s3.L.length : Int))), uV, uV, uV, uV, uV, uV, uV, uV, uV, uV, uV, uV, uV, uV, uV], []⟩) rfl (by kernel_rfl) (by kernel_rfl) (by kernel_rfl) hnp (Sg.g0 (Sx.of [] (FM.le.refl _) HS36)) ?_
    refine doneG (by kernel_rfl) ?_ _
    refine hK34 _ _ ?_
    refine wp_seq_k (fun K37 hK38 => ?_)
    refine wp_region_lit ?_
    refine seqL3 (by kernel_rfl) ?_
    refine seqK rfl (does_run (run_load rfl Try.underlying22 rfl (by kernel_rfl : _ = Value.pointer (some ⟨b1, 0, none⟩)) (HS36.cell 0)) ?_)
    have hq_ := guard_some h; clear h; obtain ⟨c39, h⟩ := hq_
    have c39 : 0 ≤ (Int.tmod (w64 ((w64 (s3.vat + 1)) - 1)) (s3.L.length : Int)) := c39
    have hq_ := guard_some h; clear h; obtain ⟨c40, h⟩ := hq_
    have c40 : (Int.tmod (w64 ((w64 (s3.vat + 1)) - 1)) (s3.L.length : Int)) < (s3.L.length : Int) := c40
    obtain ⟨b44, of45, cs41, hA46, hr42, hc43⟩ := HR6.at (i := Int.tmod (w64 ((w64 (s3.vat + 1)) - 1)) (s3.L.length : Int)) c39 c40
    obtain rfl := hr42
    refine seqL1 (by kernel_rfl) ?_
    refine seqK rfl (does_run (run_indexE hA46 (sz := 1) rfl Try.underlying22 (by kernel_rfl) (by kernel_rfl : _ = Value.slice A4 s3.L.length c5) (by kernel_rfl : _ = Value.int .i64 (Int.tmod (w64 ((w64 (s3.vat + 1)) - 1)) (s3.L.length : Int))) c39 c40 W35) ?_)
    refine seqK rfl (does_run (run_load rfl Try.underlying3 rfl (by kernel_rfl : _ = Value.pointer (some ⟨b44, of45 + (Int.tmod (w64 ((w64 (s3.vat + 1)) - 1)) (s3.L.length : Int) : Int).toNat * 1, none⟩)) ((hc43 (FM.le.refl _) HS36) 0 (by decide))) ?_)
    have hq_ := bind_some h; clear h; obtain ⟨vt47, hc48, h⟩ := hq_
    refine seqK rfl (does_call (f := 10) (args := #[.int .i64 (rd s3.L (Int.tmod (w64 ((w64 (s3.vat + 1)) - 1)) (s3.L.length : Int))), .int .i64 1073741824]) (by kernel_rfl) (spymake_Below.calls k (rd s3.L (Int.tmod (w64 ((w64 (s3.vat + 1)) - 1)) (s3.L.length : Int))) 1073741824 HS36 vt47 hc48) ?_)
    rintro _ W51 ⟨f49, rfl, L50, HS52⟩
    refine ⟨_, rfl, ?_⟩
    have hq_ := bind_some h; clear h; obtain ⟨vt53, hc54, h⟩ := hq_
    refine seqL6 (by kernel_rfl) ?_
    refine seqK rfl (does_call (f := 10) (args := #[.int .i64 (w64 (vt47 + (w64 ((w64 (Int.tdiv (w64 ((w64 (s3.vat + 1)) - 1)) (s3.L.length : Int))) * (w64 (7919 + (Int.tmod (w64 ((w64 (s3.vat + 1)) - 1)) (s3.L.length : Int)))))))), .int .i64 n7]) (by kernel_rfl) (spymake_Below.calls k (w64 (vt47 + (w64 ((w64 (Int.tdiv (w64 ((w64 (s3.vat + 1)) - 1)) (s3.L.length : Int))) * (w64 (7919 + (Int.tmod (w64 ((w64 (s3.vat + 1)) - 1)) (s3.L.length : Int)))))))) n7 HS52 vt53 hc54) ?_)
    rintro _ W57 ⟨f55, rfl, L56, HS58⟩
    refine ⟨_, rfl, ?_⟩
    refine seqS1 (a' := ⟨#[.pointer (some ⟨b1, 0, none⟩), iV n7, uV, uV, iV vt53, iV (Int.tmod (w64 ((w64 (s3.vat + 1)) - 1)) (s3.L.length : Int)), iV (w64 (Int.tdiv (w64 ((w64 (s3.vat + 1)) - 1)) (s3.L.length : Int))), .pointer (some ⟨b1, 0, none⟩), .pointer (some ⟨b1, 0, none⟩), .pointer (some ⟨b1, 1, none⟩), iV s3.vat, iV (w64 (s3.vat + 1)), .pointer (some ⟨b1, 0, none⟩), .pointer (some ⟨b1, 1, none⟩), .pointer (some ⟨b1, 0, none⟩), .pointer (some ⟨b1, 0, none⟩), .pointer (some ⟨b1, 0, none⟩), .slice A4 s3.L.length c5, iV (s3.L.length : Int), .bool false, uV, uV, uV, uV, uV, uV, uV, .pointer (some ⟨b1, 0, none⟩), .pointer (some ⟨b1, 0, none⟩), .pointer (some ⟨b1, 1, none⟩), iV (w64 (s3.vat + 1)), iV (w64 ((w64 (s3.vat + 1)) - 1)), .pointer (some ⟨b1, 0, none⟩), .pointer (some ⟨b1, 0, none⟩), .pointer (some ⟨b1, 0, none⟩), .slice A4 s3.L.length c5, iV (s3.L.length : Int), iV (Int.tmod (w64 ((w64 (s3.vat + 1)) - 1)) (s3.L.length : Int)), .pointer (some ⟨b1, 0, none⟩), .pointer (some ⟨b1, 0, none⟩), .pointer (some ⟨b1, 1, none⟩), iV (w64 (s3.vat + 1)), iV (w64 ((w64 (s3.vat + 1)) - 1)), .pointer (some ⟨b1, 0, none⟩), .pointer (some ⟨b1, 0, none⟩), .pointer (some ⟨b1, 0, none⟩), .slice A4 s3.L.length c5, iV (s3.L.length : Int), iV (w64 (Int.tdiv (w64 ((w64 (s3.vat + 1)) - 1)) (s3.L.length : Int))), .pointer (some ⟨b1, 0, none⟩), .pointer (some ⟨b1, 0, none⟩), .pointer (some ⟨b1, 0, none⟩), .slice A4 s3.L.length c5, iV (Int.tmod (w64 ((w64 (s3.vat + 1)) - 1)) (s3.L.length : Int)), .pointer (some ⟨b44, of45 + (Int.tmod (w64 ((w64 (s3.vat + 1)) - 1)) (s3.L.length : Int) : Int).toNat * 1, none⟩), iV (rd s3.L (Int.tmod (w64 ((w64 (s3.vat + 1)) - 1)) (s3.L.length : Int))), iV vt47, iV (w64 (Int.tdiv (w64 ((w64 (s3.vat + 1)) - 1)) (s3.L.length : Int))), iV (Int.tmod (w64 ((w64 (s3.vat + 1)) - 1)) (s3.L.length : Int)), iV (w64 (7919 + (Int.tmod (w64 ((w64 (s3.vat + 1)) - 1)) (s3.L.length : Int)))), iV (w64 ((w64 (Int.tdiv (w64 ((w64 (s3.vat + 1)) - 1)) (s3.L.length : Int))) * (w64 (7919 + (Int.tmod (w64 ((w64 (s3.vat + 1)) - 1)) (s3.L.length : Int)))))), iV (w64 (vt47 + (w64 ((w64 (Int.tdiv (w64 ((w64 (s3.vat + 1)) - 1)) (s3.L.length : Int))) * (w64 (7919 + (Int.tmod (w64 ((w64 (s3.vat + 1)) - 1)) (s3.L.length : Int)))))))), iV n7, iV vt53], []⟩) (by kernel_rfl) ?_
    refine wpList_nil ?_
    refine hK38 _ _ ?_
    refine wp_ret ?_
    refine hret _ _ ?_
    refine ends_still (v := Value.int .i64 vt53) (by kernel_rfl) (by kernel_rfl) ?_
    injection h with h
    injection h with h0_ h
    subst h0_ h
    exact ⟨f55, rfl, (L50.trans L56), HS58⟩

set_option maxRecDepth 100000 in
set_option maxHeartbeats 4000000 in
theorem spymake_Stream_Range.calls (k : Nat) (b1 : Nat) (A4 : Option Addr) (c5 : Nat) (s3 : S_Stream) (low7 : Int) (high8 : Int) {t w : World} {f : FM} {H : List Seg} (HS : St t w f ([(b1, .cells #[.slice A4 s3.L.length c5, .int .i64 s3.vat] 25 (0, 0))] :: H)) (HR6 : SlR (tInt .i64) f A4 c5 s3.L) (r1 : Int) (r2 : Int) (h : spymake_Stream_Range k s3 low7 high8 = some (r1, r2)) :
    Calls Try.prog 25 #[.pointer (some ⟨b1, 0, none⟩), .int .i64 low7, .int .i64 high8] w (fun e w' => ∃ (g : FM), e = .returned (Value.int .i64 r1) ∧ FM.le f g ∧ St t w' g ([(b1, .cells #[.slice A4 s3.L.length c5, .int .i64 r2] 25 (0, 0))] :: H)) := by
  unfold spymake_Stream_Range at h
  refine enter Try.func25 rfl (tm := #[.pointer (some ⟨b1, 0, none⟩), iV low7, iV high8, uV, uV, uV, uV, uV, uV, uV, uV, uV, uV, uV, uV, uV, uV, uV, uV]) (by kernel_rfl) ?_
  intro B hret hnor hnp
  refine wp_seq_k (fun K9 hK10 => ?_)
  refine wp_region_lit ?_
  refine seqS1 (a' := ⟨#[.pointer (some ⟨b1, 0, none⟩), iV low7, iV high8, uV, uV, uV, iV 0, uV, uV, uV, uV, uV, uV, uV, uV, uV, uV, uV, uV], []⟩) (by kernel_rfl) ?_
  refine wpList_nil ?_
  refine hK10 _ _ ?_
  refine wp_seq_k (fun K11 hK12 => ?_)
  refine wp_seq_k (fun K13 hK14 => ?_)
  refine wp_region_lit ?_
  refine seqS3 (a' := ⟨#[.pointer (some ⟨b1, 0, none⟩), iV low7, iV high8, uV, uV, uV, iV 0, iV high8, iV low7, .bool (decide (high8 < low7)), uV, uV, uV, uV, uV, uV, uV, uV, uV], []⟩) (by kernel_rfl) ?_
  refine wpList_nil ?_
  refine hK14 _ _ ?_
  have hq_ := ite_some h; clear h; rcases hq_ with ⟨c16, h⟩ | ⟨c16, h⟩
  · have c16 : high8 < low7 := c16
    refine wpRwI 9 (x := (decide (high8 < low7))) (v := true) (by kernel_rfl) (decide_eq_true c16) ?_
    refine condT (by kernel_rfl) ?_
    refine wp_seq_k (fun K17 hK18 => ?_)
    refine wp_region_lit ?_
    refine seqS2 (a' := ⟨#[.pointer (some ⟨b1, 0, none⟩), iV low7, iV high8, uV, uV, uV, iV low7, iV high8, iV low7, .bool true, iV low7, uV, uV, uV, uV, uV, uV, uV, uV], []⟩) (by kernel_rfl) ?_
    refine wpList_nil ?_
    refine hK18 _ _ ?_
    refine wp_ret ?_
    refine hret _ _ ?_
    refine ends_still (v := Value.int .i64 low7) (by kernel_rfl) (by kernel_rfl) ?_
    injection h with h
    injection h with h0_ h
    subst h0_ h
    exact ⟨f, rfl, FM.le.refl _, HS⟩
  · have c16 : ¬ (high8 < low7) := c16
    refine wpRwI 9 (x := (decide (high8 < low7))) (v := false) (by kernel_rfl) (decide_eq_false c16) ?_
    refine condF (by kernel_rfl) ?_
    refine wp_skip ?_
    refine hK12 _ _ ?_
    refine wp_seq_k (fun K19 hK20 => ?_)
    refine wp_region_lit ?_
    have hq_ := bind_some h; clear h; obtain ⟨⟨vt21, vt22⟩, hc23, h⟩ := hq_
    refine seqL6 (by kernel_rfl) ?_
    refine seqK rfl (does_call (f := 12) (args := #[.pointer (some ⟨b1, 0, none⟩), .int .i64 (w64 ((w64 (high8 - low7)) + 1))]) (by kernel_rfl) (spymake_Stream_Next.calls k b1 A4 c5 s3 (w64 ((w64 (high8 - low7)) + 1)) HS HR6 vt21 vt22 hc23) ?_)
    rintro _ W26 ⟨f24, rfl, L25, HS27⟩
    refine ⟨_, rfl, ?_⟩
    refine seqS2 (a' := ⟨#[.pointer (some ⟨b1, 0, none⟩), iV low7, iV high8, uV, uV, uV, iV (w64 (low7 + vt21)), iV high8, iV low7, .bool false, uV, iV low7, .pointer (some ⟨b1, 0, none⟩), iV high8, iV low7, iV (w64 (high8 - low7)), iV (w64 ((w64 (high8 - low7)) + 1)), iV vt21, iV (w64 (low7 + vt21))], []⟩) (by kernel_rfl) ?_
    refine wpList_nil ?_
    refine hK20 _ _ ?_
    refine wp_ret ?_
    refine hret _ _ ?_
    refine ends_still (v := Value.int .i64 (w64 (low7 + vt21))) (by kernel_rfl) (by kernel_rfl) ?_
    injection h with h
    injection h with h0_ h
    subst h0_ h
    exact ⟨f24, rfl, L25, HS27⟩

set_option maxRecDepth 100000 in
set_option maxHeartbeats 4000000 in
theorem bits_Mul64.calls (k : Nat)  (x1 : Int) (y2 : Int) {t w : World} {f : FM} {H : List Seg} (HS : St t w f (H)) (r1 : Int) (r2 : Int) (h : bits_Mul64 k x1 y2 = some (r1, r2)) :
    Calls Try.prog 97 #[.int .u64 x1, .int .u64 y2] w (fun e w' => ∃ (g : FM), e = .returned (Value.tuple #[.int .u64 r1, .int .u64 r2]) ∧ FM.le f g ∧ St t w' g (H)) := by
  unfold bits_Mul64 at h
  refine enter Try.func97 rfl (tm := #[.int .u64 x1, .int .u64 y2, uV, uV, uV, uV, uV, uV, uV, uV, uV, uV, uV, uV, uV, uV, uV, uV, uV, uV, uV, uV, uV, uV, uV, uV, uV, uV, uV, uV, uV, uV, uV, uV, uV, uV, uV, uV, uV, uV, uV, uV, uV, uV, uV, uV, uV, uV, uV, uV, uV]) (by kernel_rfl) ?_
  intro B hret hnor hnp
  refine wp_seq_k (fun K3 hK4 => ?_)
  refine wp_region_lit ?_
  refine seqS2 (a' := ⟨#[.int .u64 x1, .int .u64 y2, uV, uV, .int .u64 0, .int .u64 0, uV, uV, uV, uV, uV, uV, uV, uV, uV, uV, uV, uV, uV, uV, uV, uV, uV, uV, uV, uV, uV, uV, uV, uV, uV, uV, uV, uV, uV, uV, uV, uV, uV, uV, uV, uV, uV, uV, uV, uV, uV, uV, uV, uV, uV], []⟩) (by kernel_rfl) ?_
  refine wpList_nil ?_
  refine hK4 _ _ ?_
  refine wp_seq_k (fun K5 hK6 => ?_)
  refine wp_region_lit ?_
  refine seqS3 (a' := ⟨#[.int .u64 x1, .int .u64 y2, uV, uV, .int .u64 0, .int .u64 0, .int .u64 (Go.bits .and .u64 x1 4294967295), uV, uV, uV, uV, uV, uV, uV, .int .u64 x1, .int .u64 (Go.bits .and .u64 x1 4294967295), uV, uV, uV, uV, uV, uV, uV, uV, uV, uV, uV, uV, uV, uV, uV, uV, uV, uV, uV, uV, uV, uV, uV, uV, uV, uV, uV, uV, uV, uV, uV, uV, uV, uV, uV], []⟩) (by kernel_rfl) ?_
  refine wpList_nil ?_
  refine hK6 _ _ ?_
  refine wp_seq_k (fun K7 hK8 => ?_)
  refine wp_region_lit ?_
  refine seqS3 (a' := ⟨#[.int .u64 x1, .int .u64 y2, uV, uV, .int .u64 0, .int .u64 0, .int .u64 (Go.bits .and .u64 x1 4294967295), .int .u64 (shr x1 32), uV, uV, uV, uV, uV, uV, .int .u64 x1, .int .u64 (Go.bits .and .u64 x1 4294967295), .int .u64 x1, .int .u64 (shr x1 32), uV, uV, uV, uV, uV, uV, uV, uV, uV, uV, uV, uV, uV, uV, uV, uV, uV, uV, uV, uV, uV, uV, uV, uV, uV, uV, uV, uV, uV, uV, uV, uV, uV], []⟩) (by kernel_rfl) ?_
  refine wpList_nil ?_
  refine hK8 _ _ ?_
  refine wp_seq_k (fun K9 hK10 => ?_)
  refine wp_region_lit ?_
  refine seqS3 (a' := ⟨#[.int .u64 x1, .int .u64 y2, uV, uV, .int .u64 0, .int .u64 0, .int .u64 (Go.bits .and .u64 x1 4294967295), .int .u64 (shr x1 32), .int .u64 (Go.bits .and .u64 y2 4294967295), uV, uV, uV, uV, uV, .int .u64 x1, .int .u64 (Go.bits .and .u64 x1 4294967295), .int .u64 x1, .int .u64 (shr x1 32), .int .u64 y2, .int .u64 (Go.bits .and .u64 y2 4294967295), uV, uV, uV, uV, uV, uV, uV, uV, uV, uV, uV, uV, uV, uV, uV, uV, uV, uV, uV, uV, uV, uV, uV, uV, uV, uV, uV, uV, uV, uV, uV], []⟩) (by kernel_rfl) ?_
  refine wpList_nil ?_
  refine hK10 _ _ ?_
  refine wp_seq_k (fun K11 hK12 => ?_)
  refine wp_region_lit ?_
  refine seqS3 (a' := ⟨#[.int .u64 x1, .int .u64 y2, uV, uV, .int .u64 0, .int .u64 0, .int .u64 (Go.bits .and .u64 x1 4294967295), .int .u64 (shr x1 32), .int .u64 (Go.bits .and .u64 y2 4294967295), .int .u64 (shr y2 32), uV, uV, uV, uV, .int .u64 x1, .int .u64 (Go.bits .and .u64 x1 4294967295), .int .u64 x1, .int .u64 (shr x1 32), .int .u64 y2, .int .u64 (Go.bits .and .u64 y2 4294967295), .int .u64 y2, .int .u64 (shr y2 32), uV, uV, uV, uV, uV, uV, uV, uV, uV, uV, uV, uV, uV, uV, uV, uV, uV, uV, uV, uV, uV, uV, uV, uV, uV, uV, uV, uV, uV], []⟩) (by kernel_rfl) ?_
  refine wpList_nil ?_
  refine hK12 _ _ ?_
  refine wp_seq_k (fun K13 hK14 => ?_)
  refine wp_region_lit ?_
  refine seqS4 (a' := ⟨#[.int .u64 x1, .int .u64 y2, uV, uV, .int .u64 0, .int .u64 0, .int .u64 (Go.bits .and .u64 x1 4294967295), .int .u64 (shr x1 32), .int .u64 (Go.bits .and .u64 y2 4294967295), .int .u64 (shr y2 32), .int .u64 (u64 ((Go.bits .and .u64 x1 4294967295) * (Go.bits .and .u64 y2 4294967295))), uV, uV, uV, .int .u64 x1, .int .u64 (Go.bits .and .u64 x1 4294967295), .int .u64 x1, .int .u64 (shr x1 32), .int .u64 y2, .int .u64 (Go.bits .and .u64 y2 4294967295), .int .u64 y2, .int .u64 (shr y2 32), .int .u64 (Go.bits .and .u64 x1 4294967295), .int .u64 (Go.bits .and .u64 y2 4294967295), .int .u64 (u64 ((Go.bits .and .u64 x1 4294967295) * (Go.bits .and .u64 y2 4294967295))), uV, uV, uV, uV, uV, uV, uV, uV, uV, uV, uV, uV, uV, uV, uV, uV, uV, uV, uV, uV, uV, uV, uV, uV, uV, uV], []⟩) (by kernel_rfl) ?_
  refine wpList_nil ?_
  refine hK14 _ _ ?_
  refine wp_seq_k (fun K15 hK16 => ?_)
  refine wp_region_lit ?_
  refine seqS7 (a' := ⟨#[.int .u64 x1, .int .u64 y2, uV, uV, .int .u64 0, .int .u64 0, .int .u64 (Go.bits .and .u64 x1 4294967295), .int .u64 (shr x1 32), .int .u64 (Go.bits .and .u64 y2 4294967295), .int .u64 (shr y2 32), .int .u64 (u64 ((Go.bits .and .u64 x1 4294967295) * (Go.bits .and .u64 y2 4294967295))), .int .u64 (u64 ((u64 ((shr x1 32) * (Go.bits .and .u64 y2 4294967295))) + (shr (u64 ((Go.bits .and .u64 x1 4294967295) * (Go.bits .and .u64 y2 4294967295))) 32))), uV, uV, .int .u64 x1, .int .u64 (Go.bits .and .u64 x1 4294967295), .int .u64 x1, .int .u64 (shr x1 32), .int .u64 y2, .int .u64 (Go.bits .and .u64 y2 4294967295), .int .u64 y2, .int .u64 (shr y2 32), .int .u64 (Go.bits .and .u64 x1 4294967295), .int .u64 (Go.bits .and .u64 y2 4294967295), .int .u64 (u64 ((Go.bits .and .u64 x1 4294967295) * (Go.bits .and .u64 y2 4294967295))), .int .u64 (shr x1 32), .int .u64 (Go.bits .and .u64 y2 4294967295), .int .u64 (u64 ((shr x1 32) * (Go.bits .and .u64 y2 4294967295))), .int .u64 (u64 ((Go.bits .and .u64 x1 4294967295) * (Go.bits .and .u64 y2 4294967295))), .int .u64 (shr (u64 ((Go.bits .and .u64 x1 4294967295) * (Go.bits .and .u64 y2 4294967295))) 32), .int .u64 (u64 ((u64 ((shr x1 32) * (Go.bits .and .u64 y2 4294967295))) + (shr (u64 ((Go.bits .and .u64 x1 4294967295) * (Go.bits .and .u64 y2 4294967295))) 32))), uV, uV, uV, uV, uV, uV, uV, uV, uV, uV, uV, uV, uV, uV, uV, uV, uV, uV, uV, uV], []⟩) (by kernel_rfl) ?_
  refine wpList_nil ?_
  refine hK16 _ _ ?_
  refine wp_seq_k (fun K17 hK18 => ?_)
  refine wp_region_lit ?_
  refine seqS3 (a' := ⟨#[.int .u64 x1, .int .u64 y2, uV, uV, .int .u64 0, .int .u64 0, .int .u64 (Go.bits .and .u64 x1 4294967295), .int .u64 (shr x1 32), .int .u64 (Go.bits .and .u64 y2 4294967295), .int .u64 (shr y2 32), .int .u64 (u64 ((Go.bits .and .u64 x1 4294967295) * (Go.bits .and .u64 y2 4294967295))), .int .u64 (u64 ((u64 ((shr x1 32) * (Go.bits .and .u64 y2 4294967295))) + (shr (u64 ((Go.bits .and .u64 x1 4294967295) * (Go.bits .and .u64 y2 4294967295))) 32))), .int .u64 (Go.bits .and .u64 (u64 ((u64 ((shr x1 32) * (Go.bits .and .u64 y2 4294967295))) + (shr (u64 ((Go.bits .and .u64 x1 4294967295) * (Go.bits .and .u64 y2 4294967295))) 32))) 4294967295), uV, .int .u64 x1, .int .u64 (Go.bits .and .u64 x1 4294967295), .int .u64 x1, .int .u64 (shr x1 32), .int .u64 y2, .int .u64 (Go.bits .and .u64 y2 4294967295), .int .u64 y2, .int .u64 (shr y2 32), .int .u64 (Go.bits .and .u64 x1 4294967295), .int .u64 (Go.bits .and .u64 y2 4294967295), .int .u64 (u64 ((Go.bits .and .u64 x1 4294967295) * (Go.bits .and .u64 y2 4294967295))), .int .u64 (shr x1 32), .int .u64 (Go.bits .and .u64 y2 4294967295), .int .u64 (u64 ((shr x1 32) * (Go.bits .and .u64 y2 4294967295))), .int .u64 (u64 ((Go.bits .and .u64 x1 4294967295) * (Go.bits .and .u64 y2 4294967295))), .int .u64 (shr (u64 ((Go.bits .and .u64 x1 4294967295) * (Go.bits .and .u64 y2 4294967295))) 32), .int .u64 (u64 ((u64 ((shr x1 32) * (Go.bits .and .u64 y2 4294967295))) + (shr (u64 ((Go.bits .and .u64 x1 4294967295) * (Go.bits .and .u64 y2 4294967295))) 32))), .int .u64 (u64 ((u64 ((shr x1 32) * (Go.bits .and .u64 y2 4294967295))) + (shr (u64 ((Go.bits .and .u64 x1 4294967295) * (Go.bits .and .u64 y2 4294967295))) 32))), .int .u64 (Go.bits .and .u64 (u64 ((u64 ((shr x1 32) * (Go.bits .and .u64 y2 4294967295))) + (shr (u64 ((Go.bits .and .u64 x1 4294967295) * (Go.bits .and .u64 y2 4294967295))) 32))) 4294967295), uV, uV, uV, uV, uV, uV, uV, uV, uV, uV, uV, uV, uV, uV, uV, uV, uV, uV], []⟩) (by kernel_rfl) ?_
  refine wpList_nil ?_
  refine hK18 _ _ ?_
  refine wp_seq_k (fun K19 hK20 => ?_)
  refine wp_region_lit ?_
  refine seqS3 (a' := ⟨#[.int .u64 x1, .int .u64 y2, uV, uV, .int .u64 0, .int .u64 0, .int .u64 (Go.bits .and .u64 x1 4294967295), .int .u64 (shr x1 32), .int .u64 (Go.bits .and .u64 y2 4294967295), .int .u64 (shr y2 32), .int .u64 (u64 ((Go.bits .and .u64 x1 4294967295) * (Go.bits .and .u64 y2 4294967295))), .int .u64 (u64 ((u64 ((shr x1 32) * (Go.bits .and .u64 y2 4294967295))) + (shr (u64 ((Go.bits .and .u64 x1 4294967295) * (Go.bits .and .u64 y2 4294967295))) 32))), .int .u64 (Go.bits .and .u64 (u64 ((u64 ((shr x1 32) * (Go.bits .and .u64 y2 4294967295))) + (shr (u64 ((Go.bits .and .u64 x1 4294967295) * (Go.bits .and .u64 y2 4294967295))) 32))) 4294967295), .int .u64 (shr (u64 ((u64 ((shr x1 32) * (Go.bits .and .u64 y2 4294967295))) + (shr (u64 ((Go.bits .and .u64 x1 4294967295) * (Go.bits .and .u64 y2 4294967295))) 32))) 32), .int .u64 x1, .int .u64 (Go.bits .and .u64 x1 4294967295), .int .u64 x1, .int .u64 (shr x1 32), .int .u64 y2, .int .u64 (Go.bits .and .u64 y2 4294967295), .int .u64 y2, .int .u64 (shr y2 32), .int .u64 (Go.bits .and .u64 x1 4294967295), .int .u64 (Go.bits .and .u64 y2 4294967295), .int .u64 (u64 ((Go.bits .and .u64 x1 4294967295) * (Go.bits .and .u64 y2 4294967295))), .int .u64 (shr x1 32), .int .u64 (Go.bits .and .u64 y2 4294967295), .int .u64 (u64 ((shr x1 32) * (Go.bits .and .u64 y2 4294967295))), .int .u64 (u64 ((Go.bits .and .u64 x1 4294967295) * (Go.bits .and .u64 y2 4294967295))), .int .u64 (shr (u64 ((Go.bits .and .u64 x1 4294967295) * (Go.bits .and .u64 y2 4294967295))) 32), .int .u64 (u64 ((u64 ((shr x1 32) * (Go.bits .and .u64 y2 4294967295))) + (shr (u64 ((Go.bits .and .u64 x1 4294967295) * (Go.bits .and .u64 y2 4294967295))) 32))), .int .u64 (u64 ((u64 ((shr x1 32) * (Go.bits .and .u64 y2 4294967295))) + (shr (u64 ((Go.bits .and .u64 x1 4294967295) * (Go.bits .and .u64 y2 4294967295))) 32))), .int .u64 (Go.bits .and .u64 (u64 ((u64 ((shr x1 32) * (Go.bits .and .u64 y2 4294967295))) + (shr (u64 ((Go.bits .and .u64 x1 4294967295) * (Go.bits .and .u64 y2 4294967295))) 32))) 4294967295), .int .u64 (u64 ((u64 ((shr x1 32) * (Go.bits .and .u64 y2 4294967295))) + (shr (u64 ((Go.bits .and .u64 x1 4294967295) * (Go.bits .and .u64 y2 4294967295))) 32))), .int .u64 (shr (u64 ((u64 ((shr x1 32) * (Go.bits .and .u64 y2 4294967295))) + (shr (u64 ((Go.bits .and .u64 x1 4294967295) * (Go.bits .and .u64 y2 4294967295))) 32))) 32), uV, uV, uV, uV, uV, uV, uV, uV, uV, uV, uV, uV, uV, uV, uV, uV], []⟩) (by kernel_rfl) ?_
  refine wpList_nil ?_
  refine hK20 _ _ ?_
  refine wp_seq_k (fun K21 hK22 => ?_)
  refine wp_region_lit ?_
  refine seqS6 (a' := ⟨#[.int .u64 x1, .int .u64 y2, uV, uV, .int .u64 0, .int .u64 0, .int .u64 (Go.bits .and .u64 x1 4294967295), .int .u64 (shr x1 32), .int .u64 (Go.bits .and .u64 y2 4294967295), .int .u64 (shr y2 32), .int .u64 (u64 ((Go.bits .and .u64 x1 4294967295) * (Go.bits .and .u64 y2 4294967295))), .int .u64 (u64 ((u64 ((shr x1 32) * (Go.bits .and .u64 y2 4294967295))) + (shr (u64 ((Go.bits .and .u64 x1 4294967295) * (Go.bits .and .u64 y2 4294967295))) 32))), .int .u64 (u64 ((Go.bits .and .u64 (u64 ((u64 ((shr x1 32) * (Go.bits .and .u64 y2 4294967295))) + (shr (u64 ((Go.bits .and .u64 x1 4294967295) * (Go.bits .and .u64 y2 4294967295))) 32))) 4294967295) + (u64 ((Go.bits .and .u64 x1 4294967295) * (shr y2 32))))), .int .u64 (shr (u64 ((u64 ((shr x1 32) * (Go.bits .and .u64 y2 4294967295))) + (shr (u64 ((Go.bits .and .u64 x1 4294967295) * (Go.bits .and .u64 y2 4294967295))) 32))) 32), .int .u64 x1, .int .u64 (Go.bits .and .u64 x1 4294967295), .int .u64 x1, .int .u64 (shr x1 32), .int .u64 y2, .int .u64 (Go.bits .and .u64 y2 4294967295), .int .u64 y2, .int .u64 (shr y2 32), .int .u64 (Go.bits .and .u64 x1 4294967295), .int .u64 (Go.bits .and .u64 y2 4294967295), .int .u64 (u64 ((Go.bits .and .u64 x1 4294967295) * (Go.bits .and .u64 y2 4294967295))), .int .u64 (shr x1 32), .int .u64 (Go.bits .and .u64 y2 4294967295), .int .u64 (u64 ((shr x1 32) * (Go.bits .and .u64 y2 4294967295))), .int .u64 (u64 ((Go.bits .and .u64 x1 4294967295) * (Go.bits .and .u64 y2 4294967295))), .int .u64 (shr (u64 ((Go.bits .and .u64 x1 4294967295) * (Go.bits .and .u64 y2 4294967295))) 32), .int .u64 (u64 ((u64 ((shr x1 32) * (Go.bits .and .u64 y2 4294967295))) + (shr (u64 ((Go.bits .and .u64 x1 4294967295) * (Go.bits .and .u64 y2 4294967295))) 32))), .int .u64 (u64 ((u64 ((shr x1 32) * (Go.bits .and .u64 y2 4294967295))) + (shr (u64 ((Go.bits .and .u64 x1 4294967295) * (Go.bits .and .u64 y2 4294967295))) 32))), .int .u64 (Go.bits .and .u64 (u64 ((u64 ((shr x1 32) * (Go.bits .and .u64 y2 4294967295))) + (shr (u64 ((Go.bits .and .u64 x1 4294967295) * (Go.bits .and .u64 y2 4294967295))) 32))) 4294967295), .int .u64 (u64 ((u64 ((shr x1 32) * (Go.bits .and .u64 y2 4294967295))) + (shr (u64 ((Go.bits .and .u64 x1 4294967295) * (Go.bits .and .u64 y2 4294967295))) 32))), .int .u64 (shr (u64 ((u64 ((shr x1 32) * (Go.bits .and .u64 y2 4294967295))) + (shr (u64 ((Go.bits .and .u64 x1 4294967295) * (Go.bits .and .u64 y2 4294967295))) 32))) 32), .int .u64 (Go.bits .and .u64 (u64 ((u64 ((shr x1 32) * (Go.bits .and .u64 y2 4294967295))) + (shr (u64 ((Go.bits .and .u64 x1 4294967295) * (Go.bits .and .u64 y2 4294967295))) 32))) 4294967295), .int .u64 (Go.bits .and .u64 x1 4294967295), .int .u64 (shr y2 32), .int .u64 (u64 ((Go.bits .and .u64 x1 4294967295) * (shr y2 32))), .int .u64 (u64 ((Go.bits .and .u64 (u64 ((u64 ((shr x1 32) * (Go.bits .and .u64 y2 4294967295))) + (shr (u64 ((Go.bits .and .u64 x1 4294967295) * (Go.bits .and .u64 y2 4294967295))) 32))) 4294967295) + (u64 ((Go.bits .and .u64 x1 4294967295) * (shr y2 32))))), uV, uV, uV, uV, uV, uV, uV, uV, uV, uV, uV], []⟩) (by kernel_rfl) ?_
  refine wpList_nil ?_
  refine hK22 _ _ ?_
  refine wp_seq_k (fun K23 hK24 => ?_)
  refine wp_region_lit ?_
  refine seqS9 (a' := ⟨#[.int .u64 x1, .int .u64 y2, uV, uV, .int .u64 (u64 ((u64 ((u64 ((shr x1 32) * (shr y2 32))) + (shr (u64 ((u64 ((shr x1 32) * (Go.bits .and .u64 y2 4294967295))) + (shr (u64 ((Go.bits .and .u64 x1 4294967295) * (Go.bits .and .u64 y2 4294967295))) 32))) 32))) + (shr (u64 ((Go.bits .and .u64 (u64 ((u64 ((shr x1 32) * (Go.bits .and .u64 y2 4294967295))) + (shr (u64 ((Go.bits .and .u64 x1 4294967295) * (Go.bits .and .u64 y2 4294967295))) 32))) 4294967295) + (u64 ((Go.bits .and .u64 x1 4294967295) * (shr y2 32))))) 32))), .int .u64 0, .int .u64 (Go.bits .and .u64 x1 4294967295), .int .u64 (shr x1 32), .int .u64 (Go.bits .and .u64 y2 4294967295), .int .u64 (shr y2 32), .int .u64 (u64 ((Go.bits .and .u64 x1 4294967295) * (Go.bits .and .u64 y2 4294967295))), .int .u64 (u64 ((u64 ((shr x1 32) * (Go.bits .and .u64 y2 4294967295))) + (shr (u64 ((Go.bits .and .u64 x1 4294967295) * (Go.bits .and .u64 y2 4294967295))) 32))), .int .u64 (u64 ((Go.bits .and .u64 (u64 ((u64 ((shr x1 32) * (Go.bits .and .u64 y2 4294967295))) + (shr (u64 ((Go.bits .and .u64 x1 4294967295) * (Go.bits .and .u64 y2 4294967295))) 32))) 4294967295) + (u64 ((Go.bits .and .u64 x1 4294967295) * (shr y2 32))))), .int .u64 (shr (u64 ((u64 ((shr x1 32) * (Go.bits .and .u64 y2 4294967295))) + (shr (u64 ((Go.bits .and .u64 x1 4294967295) * (Go.bits .and .u64 y2 4294967295))) 32))) 32), .int .u64 x1, .int .u64 (Go.bits .and .u64 x1 4294967295), .int .u64 x1, .int .u64 (shr x1 32), .int .u64 y2, .int .u64 (Go.bits .and .u64 y2 4294967295), .int .u64 y2, .int .u64 (shr y2 32), .int .u64 (Go.bits .and .u64 x1 4294967295), .int .u64 (Go.bits .and .u64 y2 4294967295), .int .u64 (u64 ((Go.bits .and .u64 x1 4294967295) * (Go.bits .and .u64 y2 4294967295))), .int .u64 (shr x1 32), .int .u64 (Go.bits .and .u64 y2 4294967295), .int .u64 (u64 ((shr x1 32) * (Go.bits .and .u64 y2 4294967295))), .int .u64 (u64 ((Go.bits .and .u64 x1 4294967295) * (Go.bits .and .u64 y2 4294967295))), .int .u64 (shr (u64 ((Go.bits .and .u64 x1 4294967295) * (Go.bits .and .u64 y2 4294967295))) 32), .int .u64 (u64 ((u64 ((shr x1 32) * (Go.bits .and .u64 y2 4294967295))) + (shr (u64 ((Go.bits .and .u64 x1 4294967295) * (Go.bits .and .u64 y2 4294967295))) 32))), .int .u64 (u64 ((u64 ((shr x1 32) * (Go.bits .and .u64 y2 4294967295))) + (shr (u64 ((Go.bits .and .u64 x1 4294967295) * (Go.bits .and .u64 y2 4294967295))) 32))), .int .u64 (Go.bits .and .u64 (u64 ((u64 ((shr x1 32) * (Go.bits .and .u64 y2 4294967295))) + (shr (u64 ((Go.bits .and .u64 x1 4294967295) * (Go.bits .and .u64 y2 4294967295))) 32))) 4294967295), .int .u64 (u64 ((u64 ((shr x1 32) * (Go.bits .and .u64 y2 4294967295))) + (shr (u64 ((Go.bits .and .u64 x1 4294967295) * (Go.bits .and .u64 y2 4294967295))) 32))), .int .u64 (shr (u64 ((u64 ((shr x1 32) * (Go.bits .and .u64 y2 4294967295))) + (shr (u64 ((Go.bits .and .u64 x1 4294967295) * (Go.bits .and .u64 y2 4294967295))) 32))) 32), .int .u64 (Go.bits .and .u64 (u64 ((u64 ((shr x1 32) * (Go.bits .and .u64 y2 4294967295))) + (shr (u64 ((Go.bits .and .u64 x1 4294967295) * (Go.bits .and .u64 y2 4294967295))) 32))) 4294967295), .int .u64 (Go.bits .and .u64 x1 4294967295), .int .u64 (shr y2 32), .int .u64 (u64 ((Go.bits .and .u64 x1 4294967295) * (shr y2 32))), .int .u64 (u64 ((Go.bits .and .u64 (u64 ((u64 ((shr x1 32) * (Go.bits .and .u64 y2 4294967295))) + (shr (u64 ((Go.bits .and .u64 x1 4294967295) * (Go.bits .and .u64 y2 4294967295))) 32))) 4294967295) + (u64 ((Go.bits .and .u64 x1 4294967295) * (shr y2 32))))), .int .u64 (shr x1 32), .int .u64 (shr y2 32), .int .u64 (u64 ((shr x1 32) * (shr y2 32))), .int .u64 (shr (u64 ((u64 ((shr x1 32) * (Go.bits .and .u64 y2 4294967295))) + (shr (u64 ((Go.bits .and .u64 x1 4294967295) * (Go.bits .and .u64 y2 4294967295))) 32))) 32), .int .u64 (u64 ((u64 ((shr x1 32) * (shr y2 32))) + (shr (u64 ((u64 ((shr x1 32) * (Go.bits .and .u64 y2 4294967295))) + (shr (u64 ((Go.bits .and .u64 x1 4294967295) * (Go.bits .and .u64 y2 4294967295))) 32))) 32))), .int .u64 (u64 ((Go.bits .and .u64 (u64 ((u64 ((shr x1 32) * (Go.bits .and .u64 y2 4294967295))) + (shr (u64 ((Go.bits .and .u64 x1 4294967295) * (Go.bits .and .u64 y2 4294967295))) 32))) 4294967295) + (u64 ((Go.bits .and .u64 x1 4294967295) * (shr y2 32))))), .int .u64 (shr (u64 ((Go.bits .and .u64 (u64 ((u64 ((shr x1 32) * (Go.bits .and .u64 y2 4294967295))) + (shr (u64 ((Go.bits .and .u64 x1 4294967295) * (Go.bits .and .u64 y2 4294967295))) 32))) 4294967295) + (u64 ((Go.bits .and .u64 x1 4294967295) * (shr y2 32))))) 32), .int .u64 (u64 ((u64 ((u64 ((shr x1 32) * (shr y2 32))) + (shr (u64 ((u64 ((shr x1 32) * (Go.bits .and .u64 y2 4294967295))) + (shr (u64 ((Go.bits .and .u64 x1 4294967295) * (Go.bits .and .u64 y2 4294967295))) 32))) 32))) + (shr (u64 ((Go.bits .and .u64 (u64 ((u64 ((shr x1 32) * (Go.bits .and .u64 y2 4294967295))) + (shr (u64 ((Go.bits .and .u64 x1 4294967295) * (Go.bits .and .u64 y2 4294967295))) 32))) 4294967295) + (u64 ((Go.bits .and .u64 x1 4294967295) * (shr y2 32))))) 32))), uV, uV, uV], []⟩) (by kernel_rfl) ?_
  refine wpList_nil ?_
  refine hK24 _ _ ?_
  refine wp_seq_k (fun K25 hK26 => ?_)
  refine wp_region_lit ?_
  refine seqS4 (a' := ⟨#[.int .u64 x1, .int .u64 y2, uV, uV, .int .u64 (u64 ((u64 ((u64 ((shr x1 32) * (shr y2 32))) + (shr (u64 ((u64 ((shr x1 32) * (Go.bits .and .u64 y2 4294967295))) + (shr (u64 ((Go.bits .and .u64 x1 4294967295) * (Go.bits .and .u64 y2 4294967295))) 32))) 32))) + (shr (u64 ((Go.bits .and .u64 (u64 ((u64 ((shr x1 32) * (Go.bits .and .u64 y2 4294967295))) + (shr (u64 ((Go.bits .and .u64 x1 4294967295) * (Go.bits .and .u64 y2 4294967295))) 32))) 4294967295) + (u64 ((Go.bits .and .u64 x1 4294967295) * (shr y2 32))))) 32))), .int .u64 (u64 (x1 * y2)), .int .u64 (Go.bits .and .u64 x1 4294967295), .int .u64 (shr x1 32), .int .u64 (Go.bits .and .u64 y2 4294967295), .int .u64 (shr y2 32), .int .u64 (u64 ((Go.bits .and .u64 x1 4294967295) * (Go.bits .and .u64 y2 4294967295))), .int .u64 (u64 ((u64 ((shr x1 32) * (Go.bits .and .u64 y2 4294967295))) + (shr (u64 ((Go.bits .and .u64 x1 4294967295) * (Go.bits .and .u64 y2 4294967295))) 32))), .int .u64 (u64 ((Go.bits .and .u64 (u64 ((u64 ((shr x1 32) * (Go.bits .and .u64 y2 4294967295))) + (shr (u64 ((Go.bits .and .u64 x1 4294967295) * (Go.bits .and .u64 y2 4294967295))) 32))) 4294967295) + (u64 ((Go.bits .and .u64 x1 4294967295) * (shr y2 32))))), .int .u64 (shr (u64 ((u64 ((shr x1 32) * (Go.bits .and .u64 y2 4294967295))) + (shr (u64 ((Go.bits .and .u64 x1 4294967295) * (Go.bits .and .u64 y2 4294967295))) 32))) 32), .int .u64 x1, .int .u64 (Go.bits .and .u64 x1 4294967295), .int .u64 x1, .int .u64 (shr x1 32), .int .u64 y2, .int .u64 (Go.bits .and .u64 y2 4294967295), .int .u64 y2, .int .u64 (shr y2 32), .int .u64 (Go.bits .and .u64 x1 4294967295), .int .u64 (Go.bits .and .u64 y2 4294967295), .int .u64 (u64 ((Go.bits .and .u64 x1 4294967295) * (Go.bits .and .u64 y2 4294967295))), .int .u64 (shr x1 32), .int .u64 (Go.bits .and .u64 y2 4294967295), .int .u64 (u64 ((shr x1 32) * (Go.bits .and .u64 y2 4294967295))), .int .u64 (u64 ((Go.bits .and .u64 x1 4294967295) * (Go.bits .and .u64 y2 4294967295))), .int .u64 (shr (u64 ((Go.bits .and .u64 x1 4294967295) * (Go.bits .and .u64 y2 4294967295))) 32), .int .u64 (u64 ((u64 ((shr x1 32) * (Go.bits .and .u64 y2 4294967295))) + (shr (u64 ((Go.bits .and .u64 x1 4294967295) * (Go.bits .and .u64 y2 4294967295))) 32))), .int .u64 (u64 ((u64 ((shr x1 32) * (Go.bits .and .u64 y2 4294967295))) + (shr (u64 ((Go.bits .and .u64 x1 4294967295) * (Go.bits .and .u64 y2 4294967295))) 32))), .int .u64 (Go.bits .and .u64 (u64 ((u64 ((shr x1 32) * (Go.bits .and .u64 y2 4294967295))) + (shr (u64 ((Go.bits .and .u64 x1 4294967295) * (Go.bits .and .u64 y2 4294967295))) 32))) 4294967295), .int .u64 (u64 ((u64 ((shr x1 32) * (Go.bits .and .u64 y2 4294967295))) + (shr (u64 ((Go.bits .and .u64 x1 4294967295) * (Go.bits .and .u64 y2 4294967295))) 32))), .int .u64 (shr (u64 ((u64 ((shr x1 32) * (Go.bits .and .u64 y2 4294967295))) + (shr (u64 ((Go.bits .and .u64 x1 4294967295) * (Go.bits .and .u64 y2 4294967295))) 32))) 32), .int .u64 (Go.bits .and .u64 (u64 ((u64 ((shr x1 32) * (Go.bits .and .u64 y2 4294967295))) + (shr (u64 ((Go.bits .and .u64 x1 4294967295) * (Go.bits .and .u64 y2 4294967295))) 32))) 4294967295), .int .u64 (Go.bits .and .u64 x1 4294967295), .int .u64 (shr y2 32), .int .u64 (u64 ((Go.bits .and .u64 x1 4294967295) * (shr y2 32))), .int .u64 (u64 ((Go.bits .and .u64 (u64 ((u64 ((shr x1 32) * (Go.bits .and .u64 y2 4294967295))) + (shr (u64 ((Go.bits .and .u64 x1 4294967295) * (Go.bits .and .u64 y2 4294967295))) 32))) 4294967295) + (u64 ((Go.bits .and .u64 x1 4294967295) * (shr y2 32))))), .int .u64 (shr x1 32), .int .u64 (shr y2 32), .int .u64 (u64 ((shr x1 32) * (shr y2 32))), .int .u64 (shr (u64 ((u64 ((shr x1 32) * (Go.bits .and .u64 y2 4294967295))) + (shr (u64 ((Go.bits .and .u64 x1 4294967295) * (Go.bits .and .u64 y2 4294967295))) 32))) 32), .int .u64 (u64 ((u64 ((shr x1 32) * (shr y2 32))) + (shr (u64 ((u64 ((shr x1 32) * (Go.bits .and .u64 y2 4294967295))) + (shr (u64 ((Go.bits .and .u64 x1 4294967295) * (Go.bits .and .u64 y2 4294967295))) 32))) 32))), .int .u64 (u64 ((Go.bits .and .u64 (u64 ((u64 ((shr x1 32) * (Go.bits .and .u64 y2 4294967295))) + (shr (u64 ((Go.bits .and .u64 x1 4294967295) * (Go.bits .and .u64 y2 4294967295))) 32))) 4294967295) + (u64 ((Go.bits .and .u64 x1 4294967295) * (shr y2 32))))), .int .u64 (shr (u64 ((Go.bits .and .u64 (u64 ((u64 ((shr x1 32) * (Go.bits .and .u64 y2 4294967295))) + (shr (u64 ((Go.bits .and .u64 x1 4294967295) * (Go.bits .and .u64 y2 4294967295))) 32))) 4294967295) + (u64 ((Go.bits .and .u64 x1 4294967295) * (shr y2 32))))) 32), .int .u64 (u64 ((u64 ((u64 ((shr x1 32) * (shr y2 32))) + (shr (u64 ((u64 ((shr x1 32) * (Go.bits .and .u64 y2 4294967295))) + (shr (u64 ((Go.bits .and .u64 x1 4294967295) * (Go.bits .and .u64 y2 4294967295))) 32))) 32))) + (shr (u64 ((Go.bits .and .u64 (u64 ((u64 ((shr x1 32) * (Go.bits .and .u64 y2 4294967295))) + (shr (u64 ((Go.bits .and .u64 x1 4294967295) * (Go.bits .and .u64 y2 4294967295))) 32))) 4294967295) + (u64 ((Go.bits .and .u64 x1 4294967295) * (shr y2 32))))) 32))), .int .u64 x1, .int .u64 y2, .int .u64 (u64 (x1 * y2))], []⟩) (by kernel_rfl) ?_
  refine wpList_nil ?_
  refine hK26 _ _ ?_
  refine wp_ret ?_
  refine hret _ _ ?_
  refine ends_still (v := Value.tuple #[.int .u64 (u64 ((u64 ((u64 ((shr x1 32) * (shr y2 32))) + (shr (u64 ((u64 ((shr x1 32) * (Go.bits .and .u64 y2 4294967295))) + (shr (u64 ((Go.bits .and .u64 x1 4294967295) * (Go.bits .and .u64 y2 4294967295))) 32))) 32))) + (shr (u64 ((Go.bits .and .u64 (u64 ((u64 ((shr x1 32) * (Go.bits .and .u64 y2 4294967295))) + (shr (u64 ((Go.bits .and .u64 x1 4294967295) * (Go.bits .and .u64 y2 4294967295))) 32))) 4294967295) + (u64 ((Go.bits .and .u64 x1 4294967295) * (shr y2 32))))) 32))), .int .u64 (u64 (x1 * y2))]) (by kernel_rfl) (by kernel_rfl) ?_
  injection h with h
  injection h with h0_ h
  subst h0_ h
  exact ⟨f, rfl, FM.le.refl _, HS⟩

set_option maxRecDepth 100000 in
set_option maxHeartbeats 4000000 in
theorem bits_Mul.calls (k : Nat)  (x1 : Int) (y2 : Int) {t w : World} {f : FM} {H : List Seg} (HS : St t w f (H)) (r1 : Int) (r2 : Int) (h : bits_Mul k x1 y2 = some (r1, r2)) :
    Calls Try.prog 75 #[.int .u64 x1, .int .u64 y2] w (fun e w' => ∃ (g : FM), e = .returned (Value.tuple #[.int .u64 r1, .int .u64 r2]) ∧ FM.le f g ∧ St t w' g (H)) := by
  unfold bits_Mul at h
  refine enter Try.func75 rfl (tm := #[.int .u64 x1, .int .u64 y2, uV, uV, uV, uV, uV, uV, uV, uV, uV, uV, uV, uV, uV, uV, uV, uV, uV, uV, uV, uV, uV, uV, uV, uV, uV, uV, uV, uV]) (by kernel_rfl) ?_
  intro B hret hnor hnp
  refine wp_seq_k (fun K3 hK4 => ?_)
  refine wp_region_lit ?_
  refine seqS2 (a' := ⟨#[.int .u64 x1, .int .u64 y2, uV, uV, .int .u64 0, .int .u64 0, uV, uV, uV, uV, uV, uV, uV, uV, uV, uV, uV, uV, uV, uV, uV, uV, uV, uV, uV, uV, uV, uV, uV, uV], []⟩) (by kernel_rfl) ?_
  refine wpList_nil ?_
  refine hK4 _ _ ?_
  refine wp_seq_k (fun K5 hK6 => ?_)
  refine condF (by kernel_rfl) ?_
  refine wp_skip ?_
  refine hK6 _ _ ?_
  refine wp_seq_k (fun K7 hK8 => ?_)
  refine wp_region_lit ?_
  have hq_ := bind_some h; clear h; obtain ⟨⟨vt9, vt10⟩, hc11, h⟩ := hq_
  refine seqL2 (by kernel_rfl) ?_
  refine seqK rfl (does_call (f := 97) (args := #[.int .u64 x1, .int .u64 y2]) (by kernel_rfl) (bits_Mul64.calls k x1 y2 HS vt9 vt10 hc11) ?_)
  rintro _ W14 ⟨f12, rfl, L13, HS15⟩
  refine ⟨_, rfl, ?_⟩
  refine seqS5 (a' := ⟨#[.int .u64 x1, .int .u64 y2, uV, uV, .int .u64 0, .int .u64 0, uV, uV, .int .u64 vt9, .int .u64 vt10, uV, uV, uV, uV, uV, uV, uV, uV, uV, uV, uV, uV, .tuple #[.int .u64 vt9, .int .u64 vt10], .int .u64 x1, .int .u64 y2, .tuple #[.int .u64 vt9, .int .u64 vt10], .int .u64 vt9, .int .u64 vt10, uV, uV], []⟩) (by kernel_rfl) ?_
  refine wpList_nil ?_
  refine hK8 _ _ ?_
  refine wp_seq_k (fun K16 hK17 => ?_)
  refine wp_region_lit ?_
  refine seqS4 (a' := ⟨#[.int .u64 x1, .int .u64 y2, uV, uV, .int .u64 vt9, .int .u64 vt10, uV, uV, .int .u64 vt9, .int .u64 vt10, uV, uV, uV, uV, uV, uV, uV, uV, uV, uV, uV, uV, .tuple #[.int .u64 vt9, .int .u64 vt10], .int .u64 x1, .int .u64 y2, .tuple #[.int .u64 vt9, .int .u64 vt10], .int .u64 vt9, .int .u64 vt10, .int .u64 vt9, .int .u64 vt10], []⟩) (by kernel_rfl) ?_
  refine wpList_nil ?_
  refine hK17 _ _ ?_
  refine wp_ret ?_
  refine hret _ _ ?_
  refine ends_still (v := Value.tuple #[.int .u64 vt9, .int .u64 vt10]) (by kernel_rfl) (by kernel_rfl) ?_
  injection h with h
  injection h with h0_ h
  subst h0_ h
  exact ⟨f12, rfl, L13, HS15⟩

set_option maxRecDepth 100000 in
set_option maxHeartbeats 4000000 in
theorem slices_Repeat_Cells.calls (k : Nat) (A2 : Option Addr) (c3 : Nat) (x1 : List S_Cells) (count5 : Int) {t w : World} {f : FM} {H : List Seg} (HS : St t w f (H)) (HR4 : SlR ty_Cells f A2 c3 x1) (r1 : List S_Cells) (h : slices_Repeat_Cells k x1 count5 = some r1) :
    Calls Try.prog 39 #[.slice A2 x1.length c3, .int .i64 count5] w (fun e w' => ∃ (g : FM) (A134 : Option Addr) (c135 : Nat) (s136 : Seg), e = .returned (Value.slice A134 r1.length c135) ∧ FM.le f g ∧ St t w' g (s136 :: H) ∧ Own ty_Cells 34 g A134 c135 s136 r1) := by
  unfold slices_Repeat_Cells at h
  refine enter Try.func39 rfl (tm := #[.slice A2 x1.length c3, iV count5, uV, uV, uV, uV, uV, uV, uV, uV, uV, uV, uV, uV, uV, uV, uV, uV, uV, uV, uV, uV, uV, uV, uV, uV, uV, uV, uV, uV, uV, uV, uV, uV, uV, uV, uV, uV, uV, uV, uV, uV, uV, uV, uV, uV, uV, uV]) (by kernel_rfl) ?_
  intro B hret hnor hnp
  refine wp_seq_k (fun K6 hK7 => ?_)
  refine wp_region_lit ?_
  refine seqS1 (a' := ⟨#[.slice A2 x1.length c3, iV count5, uV, uV, .slice none 0 0, uV, uV, uV, uV, uV, uV, uV, uV, uV, uV, uV, uV, uV, uV, uV, uV, uV, uV, uV, uV, uV, uV, uV, uV, uV, uV, uV, uV, uV, uV, uV, uV, uV, uV, uV, uV, uV, uV, uV, uV, uV, uV, uV], []⟩) (by kernel_rfl) ?_
  refine wpList_nil ?_
  refine hK7 _ _ ?_
  refine wp_seq_k (fun K8 hK9 => ?_)
  refine wp_seq_k (fun K10 hK11 => ?_)
  refine wp_region_lit ?_
  refine seqS2 (a' := ⟨#[.slice A2 x1.length c3, iV count5, uV, uV, .slice none 0 0, uV, uV, uV, uV, iV count5, .bool (decide (count5 < 0)), uV, uV, uV, uV, uV, uV, uV, uV, uV, uV, uV, uV, uV, uV, uV, uV, uV, uV, uV, uV, uV, uV, uV, uV, uV, uV, uV, uV, uV, uV, uV, uV, uV, uV, uV, uV, uV], []⟩) (by kernel_rfl) ?_
  refine wpList_nil ?_
  refine hK11 _ _ ?_
  have hq_ := ite_some h; clear h; rcases hq_ with ⟨c13, h⟩ | ⟨c13, h⟩
  · have c13 : count5 < 0 := c13
    refine wpRwI 10 (x := (decide (count5 < 0))) (v := true) (by kernel_rfl) (decide_eq_true c13) ?_
    refine condT (by kernel_rfl) ?_
    exact nomatch h
  · have c13 : ¬ (count5 < 0) := c13
    refine wpRwI 10 (x := (decide (count5 < 0))) (v := false) (by kernel_rfl) (decide_eq_false c13) ?_
    refine condF (by kernel_rfl) ?_
    refine wp_skip ?_
    refine hK9 _ _ ?_
    refine wp_seq_k (fun K14 hK15 => ?_)
    refine wp_region_lit ?_
    have hq_ := bind_some h; clear h; obtain ⟨⟨vt16, vt17⟩, hc18, h⟩ := hq_
    refine seqL5 (by kernel_rfl) ?_
    refine seqK rfl (does_call (f := 75) (args := #[.int .u64 (u64 ((x1.length : Int))), .int .u64 (u64 (count5))]) (by kernel_rfl) (bits_Mul.calls k (u64 ((x1.length : Int))) (u64 (count5)) HS vt16 vt17 hc18) ?_)
    rintro _ W21 ⟨f19, rfl, L20, HS22⟩
    refine ⟨_, rfl, ?_⟩
    refine seqS5 (a' := ⟨#[.slice A2 x1.length c3, iV count5, uV, uV, .slice none 0 0, .int .u64 vt16, .int .u64 vt17, uV, uV, iV count5, .bool false, uV, .tuple #[.int .u64 vt16, .int .u64 vt17], .slice A2 x1.length c3, iV (x1.length : Int), .int .u64 (u64 ((x1.length : Int))), iV count5, .int .u64 (u64 (count5)), .tuple #[.int .u64 vt16, .int .u64 vt17], .int .u64 vt16, .int .u64 vt17, uV, uV, uV, uV, uV, uV, uV, uV, uV, uV, uV, uV, uV, uV, uV, uV, uV, uV, uV, uV, uV, uV, uV, uV, uV, uV, uV], []⟩) (by kernel_rfl) ?_
    refine wpList_nil ?_
    refine hK15 _ _ ?_
    refine wp_seq_k (fun K23 hK24 => ?_)
    refine wp_seq_k (fun K25 hK26 => ?_)
    refine wp_region_lit ?_
    refine seqS3 (a' := ⟨#[.slice A2 x1.length c3, iV count5, uV, uV, .slice none 0 0, .int .u64 vt16, .int .u64 vt17, uV, uV, iV count5, .bool false, uV, .tuple #[.int .u64 vt16, .int .u64 vt17], .slice A2 x1.length c3, iV (x1.length : Int), .int .u64 (u64 ((x1.length : Int))), iV count5, .int .u64 (u64 (count5)), .tuple #[.int .u64 vt16, .int .u64 vt17], .int .u64 vt16, .int .u64 vt17, .int .u64 vt16, .bool (decide (vt16 > 0)), .bool (decide (vt16 > 0)), uV, uV, uV, uV, uV, uV, uV, uV, uV, uV, uV, uV, uV, uV, uV, uV, uV, uV, uV, uV, uV, uV, uV, uV], []⟩) (by kernel_rfl) ?_
    have hq_ := ite_some h; clear h; rcases hq_ with ⟨c27, h⟩ | ⟨c27, h⟩
    · have c27 : vt16 > 0 := c27
      refine seqRwI 22 (x := (decide (vt16 > 0))) (v := true) (by kernel_rfl) (decide_eq_true c27) ?_
      refine seqRwI 23 (x := (decide (vt16 > 0))) (v := true) (by kernel_rfl) (decide_eq_true c27) ?_
      refine seqS3 (a' := ⟨#[.slice A2 x1.length c3, iV count5, uV, uV, .slice none 0 0, .int .u64 vt16, .int .u64 vt17, uV, uV, iV count5, .bool false, uV, .tuple #[.int .u64 vt16, .int .u64 vt17], .slice A2 x1.length c3, iV (x1.length : Int), .int .u64 (u64 ((x1.length : Int))), iV count5, .int .u64 (u64 (count5)), .tuple #[.int .u64 vt16, .int .u64 vt17], .int .u64 vt16, .int .u64 vt17, .int .u64 vt16, .bool true, .bool true, uV, uV, .bool true, uV, uV, uV, uV, uV, uV, uV, uV, uV, uV, uV, uV, uV, uV, uV, uV, uV, uV, uV, uV, uV], []⟩) (by kernel_rfl) ?_
      refine wpList_nil ?_
      refine hK26 _ _ ?_
      refine condT (by kernel_rfl) ?_
      exact nomatch h
    · have c27 : ¬ (vt16 > 0) := c27
      refine seqRwI 22 (x := (decide (vt16 > 0))) (v := false) (by kernel_rfl) (decide_eq_false c27) ?_
      refine seqRwI 23 (x := (decide (vt16 > 0))) (v := false) (by kernel_rfl) (decide_eq_false c27) ?_
      refine seqS3 (a' := ⟨#[.slice A2 x1.length c3, iV count5, uV, uV, .slice none 0 0, .int .u64 vt16, .int .u64 vt17, uV, uV, iV count5, .bool false, uV, .tuple #[.int .u64 vt16, .int .u64 vt17], .slice A2 x1.length c3, iV (x1.length : Int), .int .u64 (u64 ((x1.length : Int))), iV count5, .int .u64 (u64 (count5)), .tuple #[.int .u64 vt16, .int .u64 vt17], .int .u64 vt16, .int .u64 vt17, .int .u64 vt16, .bool false, .bool false, .int .u64 vt17, .bool (decide (vt17 > 9223372036854775807)), .bool (decide (vt17 > 9223372036854775807)), uV, uV, uV, uV, uV, uV, uV, uV, uV, uV, uV, uV, uV, uV, uV, uV, uV, uV, uV, uV, uV], []⟩) (by kernel_rfl) ?_
      refine wpList_nil ?_
      refine hK26 _ _ ?_
      have hq_ := ite_some h; clear h; rcases hq_ with ⟨c29, h⟩ | ⟨c29, h⟩
      · have c29 : vt17 > 9223372036854775807 := c29
        refine wpRwI 25 (x := (decide (vt17 > 9223372036854775807))) (v := true) (by kernel_rfl) (decide_eq_true c29) ?_
        refine wpRwI 26 (x := (decide (vt17 > 9223372036854775807))) (v := true) (by kernel_rfl) (decide_eq_true c29) ?_
        refine condT (by kernel_rfl) ?_
        exact nomatch h
      · have c29 : ¬ (vt17 > 9223372036854775807) := c29
        refine wpRwI 25 (x := (decide (vt17 > 9223372036854775807))) (v := false) (by kernel_rfl) (decide_eq_false c29) ?_
        refine wpRwI 26 (x := (decide (vt17 > 9223372036854775807))) (v := false) (by kernel_rfl) (decide_eq_false c29) ?_
        refine condF (by kernel_rfl) ?_
        refine wp_skip ?_
        refine hK24 _ _ ?_
        refine wp_seq_k (fun K30 hK31 => ?_)
        refine wp_region_lit ?_
        have hq_ := guard_some h; clear h; obtain ⟨c32, h⟩ := hq_
        have c32 : 0 ≤ (w64 (vt17)) := c32
        have hq_ := guard_some h; clear h; obtain ⟨c33, h⟩ := hq_
        have c33 : (w64 (vt17)) * 40 ≤ 140737488355328 := c33
        refine seqL2 (by kernel_rfl) ?_
        refine seqK rfl (does_make (e := ty_Cells) (E := 34) (u := (⟨0, 0, ([] : List S_Bound)⟩ : S_Cells)) (n := w64 (vt17)) rfl (by kernel_rfl : _ = Value.int .i64 (w64 (vt17))) (by kernel_rfl : _ = Value.int .i64 (w64 (vt17))) Try.underlying27 inf34 c32 c33 (by omega) ⟨none, 0, rfl, SlR.nil _ _⟩ HS22 ?_)
        intro b34 W35 s36 HS37 HO38
        refine seqS1 (a' := ⟨#[.slice A2 x1.length c3, iV count5, uV, uV, .slice none 0 0, .int .u64 vt16, .int .u64 vt17, .slice (some ⟨b34, 0, none⟩) (List.replicate (w64 (vt17)).toNat ((⟨0, 0, ([] : List S_Bound)⟩ : S_Cells) : S_Cells)).length (w64 (vt17)).toNat, uV, iV count5, .bool false, uV, .tuple #[.int .u64 vt16, .int .u64 vt17], .slice A2 x1.length c3, iV (x1.length : Int), .int .u64 (u64 ((x1.length : Int))), iV count5, .int .u64 (u64 (count5)), .tuple #[.int .u64 vt16, .int .u64 vt17], .int .u64 vt16, .int .u64 vt17, .int .u64 vt16, .bool false, .bool false, .int .u64 vt17, .bool false, .bool false, uV, .int .u64 vt17, iV (w64 (vt17)), .slice (some ⟨b34, 0, none⟩) (List.replicate (w64 (vt17)).toNat ((⟨0, 0, ([] : List S_Bound)⟩ : S_Cells) : S_Cells)).length (w64 (vt17)).toNat, uV, uV, uV, uV, uV, uV, uV, uV, uV, uV, uV, uV, uV, uV, uV, uV, uV], []⟩) (by kernel_rfl) ?_
        refine wpList_nil ?_
        refine hK31 _ _ ?_
        refine wp_seq_k (fun K40 hK41 => ?_)
        refine wp_region_lit ?_
        refine seqL2 (by kernel_rfl) ?_
        refine seqK rfl (does_copy0 (e := ty_Cells) (E := 34) (A := (some ⟨b34, 0, none⟩)) (c := (w64 (vt17)).toNat) (xs := (List.replicate (w64 (vt17)).toNat ((⟨0, 0, ([] : List S_Bound)⟩ : S_Cells) : S_Cells))) (ys := x1) rfl Try.underlying27 inf34.size (by kernel_rfl : _ = Value.slice (some ⟨b34, 0, none⟩) (List.replicate (w64 (vt17)).toNat ((⟨0, 0, ([] : List S_Bound)⟩ : S_Cells) : S_Cells)).length (w64 (vt17)).toNat) (by kernel_rfl : _ = Value.slice A2 x1.length c3) HO38 HS37 ((HR4.mono L20).rc HS37) ?_)
        intro W42 s43 HS44 HO45
        refine seqRwS 7 (A := (some ⟨b34, 0, none⟩)) (m := (List.replicate (w64 (vt17)).toNat ((⟨0, 0, ([] : List S_Bound)⟩ : S_Cells) : S_Cells)).length) (n := (cpy (List.replicate (w64 (vt17)).toNat ((⟨0, 0, ([] : List S_Bound)⟩ : S_Cells) : S_Cells)) 0 x1).length) (c := (w64 (vt17)).toNat) (by kernel_rfl) (cpy_len0).symm ?_
        refine seqRwS 30 (A := (some ⟨b34, 0, none⟩)) (m := (List.replicate (w64 (vt17)).toNat ((⟨0, 0, ([] : List S_Bound)⟩ : S_Cells) : S_Cells)).length) (n := (cpy (List.replicate (w64 (vt17)).toNat ((⟨0, 0, ([] : List S_Bound)⟩ : S_Cells) : S_Cells)) 0 x1).length) (c := (w64 (vt17)).toNat) (by kernel_rfl) (cpy_len0).symm ?_
        refine seqRwS 31 (A := (some ⟨b34, 0, none⟩)) (m := (List.replicate (w64 (vt17)).toNat ((⟨0, 0, ([] : List S_Bound)⟩ : S_Cells) : S_Cells)).length) (n := (cpy (List.replicate (w64 (vt17)).toNat ((⟨0, 0, ([] : List S_Bound)⟩ : S_Cells) : S_Cells)) 0 x1).length) (c := (w64 (vt17)).toNat) (by kernel_rfl) (cpy_len0).symm ?_
        refine seqS1 (a' := ⟨#[.slice A2 x1.length c3, iV count5, uV, uV, .slice none 0 0, .int .u64 vt16, .int .u64 vt17, .slice (some ⟨b34, 0, none⟩) (cpy (List.replicate (w64 (vt17)).toNat ((⟨0, 0, ([] : List S_Bound)⟩ : S_Cells) : S_Cells)) 0 x1).length (w64 (vt17)).toNat, iV ((min x1.length ((List.replicate (w64 (vt17)).toNat ((⟨0, 0, ([] : List S_Bound)⟩ : S_Cells) : S_Cells)).length - 0) : Nat) : Int), iV count5, .bool false, uV, .tuple #[.int .u64 vt16, .int .u64 vt17], .slice A2 x1.length c3, iV (x1.length : Int), .int .u64 (u64 ((x1.length : Int))), iV count5, .int .u64 (u64 (count5)), .tuple #[.int .u64 vt16, .int .u64 vt17], .int .u64 vt16, .int .u64 vt17, .int .u64 vt16, .bool false, .bool false, .int .u64 vt17, .bool false, .bool false, uV, .int .u64 vt17, iV (w64 (vt17)), .slice (some ⟨b34, 0, none⟩) (cpy (List.replicate (w64 (vt17)).toNat ((⟨0, 0, ([] : List S_Bound)⟩ : S_Cells) : S_Cells)) 0 x1).length (w64 (vt17)).toNat, .slice (some ⟨b34, 0, none⟩) (cpy (List.replicate (w64 (vt17)).toNat ((⟨0, 0, ([] : List S_Bound)⟩ : S_Cells) : S_Cells)) 0 x1).length (w64 (vt17)).toNat, .slice A2 x1.length c3, iV ((min x1.length ((List.replicate (w64 (vt17)).toNat ((⟨0, 0, ([] : List S_Bound)⟩ : S_Cells) : S_Cells)).length - 0) : Nat) : Int), uV, uV, uV, uV, uV, uV, uV, uV, uV, uV, uV, uV, uV, uV], []⟩) (by kernel_rfl) ?_
        refine wpList_nil ?_
        refine hK41 _ _ ?_
        refine wp_seq_k (fun K46 hK47 => ?_)
        refine blockK (fun B48 hx49 hn50 hr51 ho52 hp53 => ?_)
        have hq_ := bind_some h; clear h; obtain ⟨o85, hv129, h⟩ := hq_
        have J130 : ∀ (f120 : FM) (s126 : Seg) (newslice125 : List S_Cells) (j124 : Nat → Value) (W122 : World) (a_ : Act), FM.le f19 f120 → some (newslice125) = some o85 → St t W122 f120 (s126 :: H) → Own ty_Cells 34 f120 (some ⟨b34, 0, none⟩) (w64 (vt17)).toNat s126 newslice125 → newslice125.length = (cpy (List.replicate (w64 (vt17)).toNat ((⟨0, 0, ([] : List S_Bound)⟩ : S_Cells) : S_Cells)) 0 x1).length → a_ = ⟨#[.slice A2 x1.length c3, iV count5, uV, uV, .slice none 0 0, .int .u64 vt16, .int .u64 vt17, .slice (some ⟨b34, 0, none⟩) newslice125.length (w64 (vt17)).toNat, (j124 0), iV count5, .bool false, uV, .tuple #[.int .u64 vt16, .int .u64 vt17], .slice A2 x1.length c3, iV (x1.length : Int), .int .u64 (u64 ((x1.length : Int))), iV count5, .int .u64 (u64 (count5)), .tuple #[.int .u64 vt16, .int .u64 vt17], .int .u64 vt16, .int .u64 vt17, .int .u64 vt16, .bool false, .bool false, .int .u64 vt17, .bool false, .bool false, uV, .int .u64 vt17, iV (w64 (vt17)), (j124 1), (j124 2), .slice A2 x1.length c3, iV ((min x1.length ((List.replicate (w64 (vt17)).toNat ((⟨0, 0, ([] : List S_Bound)⟩ : S_Cells) : S_Cells)).length - 0) : Nat) : Int), (j124 3), (j124 4), (j124 5), (j124 6), (j124 7), (j124 8), (j124 9), (j124 10), (j124 11), (j124 12), (j124 13), (j124 14), (j124 15), uV], []⟩ → K46 a_ W122 := by
          intro f120 s126 newslice125 j124 W122 a_ L121 hj131 HS123 HO127 HL128 hfr_; subst hfr_
          injection hj131 with hj131; subst hj131; try dsimp only at h
          refine hK47 _ _ ?_
          refine wp_seq_k (fun K132 hK133 => ?_)
          refine wp_region_lit ?_
          refine seqS2 (a' := ⟨#[.slice A2 x1.length c3, iV count5, uV, uV, .slice (some ⟨b34, 0, none⟩) newslice125.length (w64 (vt17)).toNat, .int .u64 vt16, .int .u64 vt17, .slice (some ⟨b34, 0, none⟩) newslice125.length (w64 (vt17)).toNat, (j124 0), iV count5, .bool false, uV, .tuple #[.int .u64 vt16, .int .u64 vt17], .slice A2 x1.length c3, iV (x1.length : Int), .int .u64 (u64 ((x1.length : Int))), iV count5, .int .u64 (u64 (count5)), .tuple #[.int .u64 vt16, .int .u64 vt17], .int .u64 vt16, .int .u64 vt17, .int .u64 vt16, .bool false, .bool false, .int .u64 vt17, .bool false, .bool false, uV, .int .u64 vt17, iV (w64 (vt17)), (j124 1), (j124 2), .slice A2 x1.length c3, iV ((min x1.length ((List.replicate (w64 (vt17)).toNat ((⟨0, 0, ([] : List S_Bound)⟩ : S_Cells) : S_Cells)).length - 0) : Nat) : Int), (j124 3), (j124 4), (j124 5), (j124 6), (j124 7), (j124 8), (j124 9), (j124 10), (j124 11), (j124 12), (j124 13), (j124 14), (j124 15), .slice (some ⟨b34, 0, none⟩) newslice125.length (w64 (vt17)).toNat], []⟩) (by kernel_rfl) ?_
          refine wpList_nil ?_
          refine hK133 _ _ ?_
          refine wp_ret ?_
          refine hret _ _ ?_
          refine ends_still (v := Value.slice (some ⟨b34, 0, none⟩) newslice125.length (w64 (vt17)).toNat) (by kernel_rfl) (by kernel_rfl) ?_
          injection h with h
          subst h
          exact ⟨f120, (some ⟨b34, 0, none⟩), ((w64 (vt17)).toNat), s126, rfl, (L20.trans L121), HS123, HO127⟩
        clear h; have h := hv129; clear hv129
        refine loopK (fun n_ a_ w_ => ∃ (f89 : FM) (s95 : Seg) (newslice94 : List S_Cells) (n98 : Int) (j93 : Nat → Value), FM.le f19 f89 ∧ St t w_ f89 (s95 :: H) ∧ Own ty_Cells 34 f89 (some ⟨b34, 0, none⟩) (w64 (vt17)).toNat s95 newslice94 ∧ newslice94.length = (cpy (List.replicate (w64 (vt17)).toNat ((⟨0, 0, ([] : List S_Bound)⟩ : S_Cells) : S_Cells)) 0 x1).length ∧ slices_Repeat_Cells.l0 k n_ newslice94 n98 = some o85 ∧ a_ = ⟨#[.slice A2 x1.length c3, iV count5, uV, uV, .slice none 0 0, .int .u64 vt16, .int .u64 vt17, .slice (some ⟨b34, 0, none⟩) newslice94.length (w64 (vt17)).toNat, iV n98, iV count5, .bool false, uV, .tuple #[.int .u64 vt16, .int .u64 vt17], .slice A2 x1.length c3, iV (x1.length : Int), .int .u64 (u64 ((x1.length : Int))), iV count5, .int .u64 (u64 (count5)), .tuple #[.int .u64 vt16, .int .u64 vt17], .int .u64 vt16, .int .u64 vt17, .int .u64 vt16, .bool false, .bool false, .int .u64 vt17, .bool false, .bool false, uV, .int .u64 vt17, iV (w64 (vt17)), .slice (some ⟨b34, 0, none⟩) (cpy (List.replicate (w64 (vt17)).toNat ((⟨0, 0, ([] : List S_Bound)⟩ : S_Cells) : S_Cells)) 0 x1).length (w64 (vt17)).toNat, .slice (some ⟨b34, 0, none⟩) (cpy (List.replicate (w64 (vt17)).toNat ((⟨0, 0, ([] : List S_Bound)⟩ : S_Cells) : S_Cells)) 0 x1).length (w64 (vt17)).toNat, .slice A2 x1.length c3, iV ((min x1.length ((List.replicate (w64 (vt17)).toNat ((⟨0, 0, ([] : List S_Bound)⟩ : S_Cells) : S_Cells)).length - 0) : Nat) : Int), (j93 0), (j93 1), (j93 2), (j93 3), (j93 4), (j93 5), (j93 6), (j93 7), (j93 8), (j93 9), (j93 10), (j93 11), (j93 12), uV], []⟩) k ⟨f19, s43, (cpy (List.replicate (w64 (vt17)).toNat ((⟨0, 0, ([] : List S_Bound)⟩ : S_Cells) : S_Cells)) 0 x1), ((min x1.length ((List.replicate (w64 (vt17)).toNat ((⟨0, 0, ([] : List S_Bound)⟩ : S_Cells) : S_Cells)).length - 0) : Nat) : Int), (fun i_ => [undef, undef, undef, undef, undef, undef, undef, undef, undef, undef, undef, undef, undef].getD i_ undef), (FM.le.refl _), HS44, HO45, rfl, h, (by kernel_rfl)⟩ ?_
        clear h
        rintro n88 _ W91 ⟨f89, s95, newslice94, n98, j93, L90, HS92, HO96, HL97, h, rfl⟩ K86 hK87
        obtain _ | n88 := n88
        · exact nomatch h
        simp only [slices_Repeat_Cells.l0] at h
        refine wp_seq_k (fun K99 hK100 => ?_)
        refine wp_seq_k (fun K101 hK102 => ?_)
        refine wp_region_lit ?_
        refine seqS4 (a' := ⟨#[.slice A2 x1.length c3, iV count5, uV, uV, .slice none 0 0, .int .u64 vt16, .int .u64 vt17, .slice (some ⟨b34, 0, none⟩) newslice94.length (w64 (vt17)).toNat, iV n98, iV count5, .bool false, uV, .tuple #[.int .u64 vt16, .int .u64 vt17], .slice A2 x1.length c3, iV (x1.length : Int), .int .u64 (u64 ((x1.length : Int))), iV count5, .int .u64 (u64 (count5)), .tuple #[.int .u64 vt16, .int .u64 vt17], .int .u64 vt16, .int .u64 vt17, .int .u64 vt16, .bool false, .bool false, .int .u64 vt17, .bool false, .bool false, uV, .int .u64 vt17, iV (w64 (vt17)), .slice (some ⟨b34, 0, none⟩) (cpy (List.replicate (w64 (vt17)).toNat ((⟨0, 0, ([] : List S_Bound)⟩ : S_Cells) : S_Cells)) 0 x1).length (w64 (vt17)).toNat, .slice (some ⟨b34, 0, none⟩) (cpy (List.replicate (w64 (vt17)).toNat ((⟨0, 0, ([] : List S_Bound)⟩ : S_Cells) : S_Cells)) 0 x1).length (w64 (vt17)).toNat, .slice A2 x1.length c3, iV ((min x1.length ((List.replicate (w64 (vt17)).toNat ((⟨0, 0, ([] : List S_Bound)⟩ : S_Cells) : S_Cells)).length - 0) : Nat) : Int), iV n98, .slice (some ⟨b34, 0, none⟩) newslice94.length (w64 (vt17)).toNat, iV (newslice94.length : Int), .bool (decide (n98 < (newslice94.length : Int))), (j93 4), (j93 5), (j93 6), (j93 7), (j93 8), (j93 9), (j93 10), (j93 11), (j93 12), uV], []⟩) (by kernel_rfl) ?_
        refine wpList_nil ?_
        refine hK102 _ _ ?_
        have hq_ := ite_some h; clear h; rcases hq_ with ⟨c104, h⟩ | ⟨c104, h⟩
        · have c104 : n98 < (newslice94.length : Int) := c104
          refine wpRwI 37 (x := (decide (n98 < (newslice94.length : Int)))) (v := true) (by kernel_rfl) (decide_eq_true c104) ?_
          refine condT (by kernel_rfl) ?_
          refine wp_skip ?_
          refine hK100 _ _ ?_
          refine blockK (fun B105 hx106 hn107 hr108 ho109 hp110 => ?_)
          refine heldG (S := Sg t f89 (H) [(7, s95)]) (n := 10) (by kernel_rfl) rfl HS92 ?_
          intro W112 HS113
          have hq_ := guard_some h; clear h; obtain ⟨c114, h⟩ := hq_
          have c114 : 0 ≤ n98 := c114
          have hq_ := guard_some h; clear h; obtain ⟨c115, h⟩ := hq_
          have c115 : n98 ≤ (newslice94.length : Int) := c115
          refine takeG [0, 1, 2] (n := 10) (fuel := 7) (l' := #[true, true, true, false, false, false, false, false, false, false]) (a' := ⟨#[.slice A2 x1.length c3, iV count5, uV, uV, .slice none 0 0, .int .u64 vt16, .int .u64 vt17, .slice (some ⟨b34, 0, none⟩) newslice94.length (w64 (vt17)).toNat, iV n98, iV count5, .bool false, uV, .tuple #[.int .u64 vt16, .int .u64 vt17], .slice A2 x1.length c3, iV (x1.length : Int), .int .u64 (u64 ((x1.length : Int))), iV count5, .int .u64 (u64 (count5)), .tuple #[.int .u64 vt16, .int .u64 vt17], .int .u64 vt16, .int .u64 vt17, .int .u64 vt16, .bool false, .bool false, .int .u64 vt17, .bool false, .bool false, uV, .int .u64 vt17, iV (w64 (vt17)), .slice (some ⟨b34, 0, none⟩) (cpy (List.replicate (w64 (vt17)).toNat ((⟨0, 0, ([] : List S_Bound)⟩ : S_Cells) : S_Cells)) 0 x1).length (w64 (vt17)).toNat, .slice (some ⟨b34, 0, none⟩) (cpy (List.replicate (w64 (vt17)).toNat ((⟨0, 0, ([] : List S_Bound)⟩ : S_Cells) : S_Cells)) 0 x1).length (w64 (vt17)).toNat, .slice A2 x1.length c3, iV ((min x1.length ((List.replicate (w64 (vt17)).toNat ((⟨0, 0, ([] : List S_Bound)⟩ : S_Cells) : S_Cells)).length - 0) : Nat) : Int), iV n98, .slice (some ⟨b34, 0, none⟩) newslice94.length (w64 (vt17)).toNat, iV (newslice94.length : Int), .bool true, iV n98, .slice (some ⟨b34, 0, none⟩) newslice94.length (w64 (vt17)).toNat, iV n98, (j93 7), (j93 8), (j93 9), (j93 10), (j93 11), (j93 12), uV], []⟩) rfl (by kernel_rfl) (by kernel_rfl) (by kernel_rfl) (fun ch_ a_ w_ q_ => (fun ch_ a_ w_ q_ => hnp ch_ a_ w_ (hp53 ch_ a_ w_ q_)) ch_ a_ w_ (hp110 ch_ a_ w_ q_)) (Sg.g1 (Sx.of [s95] (FM.le.refl _) HS113) (fun _ => St.only [] HS113 (FM.le.refl _))) ?_
          refine takeGQ 3 [] rfl (by kernel_rfl) (by kernel_rfl) (by kernel_rfl) (by kernel_rfl) (by kernel_rfl) (by kernel_rfl) (fun ch_ a_ w_ q_ => (fun ch_ a_ w_ q_ => hnp ch_ a_ w_ (hp53 ch_ a_ w_ q_)) ch_ a_ w_ (hp110 ch_ a_ w_ q_)) (Sg.g1 (Sx.of [s95] (FM.le.refl _) HS113) (fun _ => St.only [] HS113 (FM.le.refl _))) (fun w_ hw_ => by obtain ⟨g_, hl_, hS_⟩ := hw_.st; exact run_cutV (e := ty_Cells) (xs := newslice94) rfl Try.underlying27 (by kernel_rfl) (by kernel_rfl : _ = Value.slice (some ⟨b34, 0, none⟩) newslice94.length (w64 (vt17)).toNat) (by kernel_rfl : _ = Value.int .i64 n98) c114 c115 HO96.le w_) ?_
          refine takeG [4, 5] (n := 6) (fuel := 4) (l' := #[true, true, true, true, true, true, false, false, false, false]) (a' := ⟨#[.slice A2 x1.length c3, iV count5, uV, uV, .slice none 0 0, .int .u64 vt16, .int .u64 vt17, .slice (some ⟨b34, 0, none⟩) newslice94.length (w64 (vt17)).toNat, iV n98, iV count5, .bool false, uV, .tuple #[.int .u64 vt16, .int .u64 vt17], .slice A2 x1.length c3, iV (x1.length : Int), .int .u64 (u64 ((x1.length : Int))), iV count5, .int .u64 (u64 (count5)), .tuple #[.int .u64 vt16, .int .u64 vt17], .int .u64 vt16, .int .u64 vt17, .int .u64 vt16, .bool false, .bool false, .int .u64 vt17, .bool false, .bool false, uV, .int .u64 vt17, iV (w64 (vt17)), .slice (some ⟨b34, 0, none⟩) (cpy (List.replicate (w64 (vt17)).toNat ((⟨0, 0, ([] : List S_Bound)⟩ : S_Cells) : S_Cells)) 0 x1).length (w64 (vt17)).toNat, .slice (some ⟨b34, 0, none⟩) (cpy (List.replicate (w64 (vt17)).toNat ((⟨0, 0, ([] : List S_Bound)⟩ : S_Cells) : S_Cells)) 0 x1).length (w64 (vt17)).toNat, .slice A2 x1.length c3, iV ((min x1.length ((List.replicate (w64 (vt17)).toNat ((⟨0, 0, ([] : List S_Bound)⟩ : S_Cells) : S_Cells)).length - 0) : Nat) : Int), iV n98, .slice (some ⟨b34, 0, none⟩) newslice94.length (w64 (vt17)).toNat, iV (newslice94.length : Int), .bool true, iV n98, .slice (some ⟨b34, 0, none⟩) newslice94.length (w64 (vt17)).toNat, iV n98, .slice (cutA (some ⟨b34, 0, none⟩) ((w64 (vt17)).toNat) (n98).toNat 3) (newslice94.drop (n98).toNat).length ((w64 (vt17)).toNat - (n98).toNat), .slice (some ⟨b34, 0, none⟩) newslice94.length (w64 (vt17)).toNat, iV n98, (j93 10), (j93 11), (j93 12), uV], []⟩) rfl (by kernel_rfl) (by kernel_rfl) (by kernel_rfl) (fun ch_ a_ w_ q_ => (fun ch_ a_ w_ q_ => hnp ch_ a_ w_ (hp53 ch_ a_ w_ q_)) ch_ a_ w_ (hp110 ch_ a_ w_ q_)) (Sg.g1 (Sx.of [s95] (FM.le.refl _) HS113) (fun _ => St.only [] HS113 (FM.le.refl _))) ?_
          refine takeGQ 6 [] rfl (by kernel_rfl) (by kernel_rfl) (by kernel_rfl) (by kernel_rfl) (by kernel_rfl) (by kernel_rfl) (fun ch_ a_ w_ q_ => (fun ch_ a_ w_ q_ => hnp ch_ a_ w_ (hp53 ch_ a_ w_ q_)) ch_ a_ w_ (hp110 ch_ a_ w_ q_)) (Sg.g1 (Sx.of [s95] (FM.le.refl _) HS113) (fun _ => St.only [] HS113 (FM.le.refl _))) (fun w_ hw_ => by obtain ⟨g_, hl_, hS_⟩ := hw_.st; exact run_cutH (e := ty_Cells) (xs := newslice94) rfl Try.underlying27 (by kernel_rfl) (by kernel_rfl : _ = Value.slice (some ⟨b34, 0, none⟩) newslice94.length (w64 (vt17)).toNat) (by kernel_rfl : _ = Value.int .i64 n98) c114 c115 HO96.le w_) ?_
          refine takeGE 7 (by kernel_rfl) rfl (by kernel_rfl) (does_copy (n := (n98).toNat) (e := ty_Cells) (E := 34) (A := (some ⟨b34, 0, none⟩)) (c := (w64 (vt17)).toNat) (xs := newslice94) (ys := (newslice94.take (n98).toNat)) rfl Try.underlying27 inf34.size (by kernel_rfl : _ = Value.slice (cutA (some ⟨b34, 0, none⟩) ((w64 (vt17)).toNat) (n98).toNat 3) (newslice94.drop (n98).toNat).length ((w64 (vt17)).toNat - (n98).toNat)) (by kernel_rfl : _ = Value.slice (some ⟨b34, 0, none⟩) (newslice94.take (n98).toNat).length (w64 (vt17)).toNat) rfl (by omega) HO96 HS113 ((HO96.take (n98).toNat).rc HS113) ?_)
          intro W116 s117 HS118 HO119
          refine ⟨(Sg.g1 (Sx.of [s117] (FM.le.refl _) HS118) (fun hl_ => Bool.noConfusion (show true = false from hl_))), ?_⟩
          refine gateRwS 7 (A := (some ⟨b34, 0, none⟩)) (m := newslice94.length) (n := (cpy newslice94 (n98).toNat (newslice94.take (n98).toNat)).length) (c := (w64 (vt17)).toNat) (by kernel_rfl) ((cpy_lenI c114 c115)).symm ?_
          refine gateRwS 35 (A := (some ⟨b34, 0, none⟩)) (m := newslice94.length) (n := (cpy newslice94 (n98).toNat (newslice94.take (n98).toNat)).length) (c := (w64 (vt17)).toNat) (by kernel_rfl) ((cpy_lenI c114 c115)).symm ?_
          refine gateRwS 39 (A := (some ⟨b34, 0, none⟩)) (m := newslice94.length) (n := (cpy newslice94 (n98).toNat (newslice94.take (n98).toNat)).length) (c := (w64 (vt17)).toNat) (by kernel_rfl) ((cpy_lenI c114 c115)).symm ?_
          refine gateRwS 42 (A := (some ⟨b34, 0, none⟩)) (m := newslice94.length) (n := (cpy newslice94 (n98).toNat (newslice94.take (n98).toNat)).length) (c := (w64 (vt17)).toNat) (by kernel_rfl) ((cpy_lenI c114 c115)).symm ?_
          refine takeG [8, 9] (n := 2) (fuel := 0) (l' := #[true, true, true, true, true, true, true, true, true, true]) (a' := ⟨#[.slice A2 x1.length c3, iV count5, uV, uV, .slice none 0 0, .int .u64 vt16, .int .u64 vt17, .slice (some ⟨b34, 0, none⟩) (cpy newslice94 (n98).toNat (newslice94.take (n98).toNat)).length (w64 (vt17)).toNat, iV (w64 (n98 + ((min (newslice94.take (n98).toNat).length (newslice94.length - (n98).toNat) : Nat) : Int))), iV count5, .bool false, uV, .tuple #[.int .u64 vt16, .int .u64 vt17], .slice A2 x1.length c3, iV (x1.length : Int), .int .u64 (u64 ((x1.length : Int))), iV count5, .int .u64 (u64 (count5)), .tuple #[.int .u64 vt16, .int .u64 vt17], .int .u64 vt16, .int .u64 vt17, .int .u64 vt16, .bool false, .bool false, .int .u64 vt17, .bool false, .bool false, uV, .int .u64 vt17, iV (w64 (vt17)), .slice (some ⟨b34, 0, none⟩) (cpy (List.replicate (w64 (vt17)).toNat ((⟨0, 0, ([] : List S_Bound)⟩ : S_Cells) : S_Cells)) 0 x1).length (w64 (vt17)).toNat, .slice (some ⟨b34, 0, none⟩) (cpy (List.replicate (w64 (vt17)).toNat ((⟨0, 0, ([] : List S_Bound)⟩ : S_Cells) : S_Cells)) 0 x1).length (w64 (vt17)).toNat, .slice A2 x1.length c3, iV ((min x1.length ((List.replicate (w64 (vt17)).toNat ((⟨0, 0, ([] : List S_Bound)⟩ : S_Cells) : S_Cells)).length - 0) : Nat) : Int), iV n98, .slice (some ⟨b34, 0, none⟩) (cpy newslice94 (n98).toNat (newslice94.take (n98).toNat)).length (w64 (vt17)).toNat, iV (newslice94.length : Int), .bool true, iV n98, .slice (some ⟨b34, 0, none⟩) (cpy newslice94 (n98).toNat (newslice94.take (n98).toNat)).length (w64 (vt17)).toNat, iV n98, .slice (cutA (some ⟨b34, 0, none⟩) ((w64 (vt17)).toNat) (n98).toNat 3) (newslice94.drop (n98).toNat).length ((w64 (vt17)).toNat - (n98).toNat), .slice (some ⟨b34, 0, none⟩) (cpy newslice94 (n98).toNat (newslice94.take (n98).toNat)).length (w64 (vt17)).toNat, iV n98, .slice (some ⟨b34, 0, none⟩) (newslice94.take (n98).toNat).length (w64 (vt17)).toNat, iV ((min (newslice94.take (n98).toNat).length (newslice94.length - (n98).toNat) : Nat) : Int), iV (w64 (n98 + ((min (newslice94.take (n98).toNat).length (newslice94.length - (n98).toNat) : Nat) : Int))), uV], []⟩) rfl (by kernel_rfl) (by kernel_rfl) (by kernel_rfl) (fun ch_ a_ w_ q_ => (fun ch_ a_ w_ q_ => hnp ch_ a_ w_ (hp53 ch_ a_ w_ q_)) ch_ a_ w_ (hp110 ch_ a_ w_ q_)) (Sg.g1 (Sx.of [s117] (FM.le.refl _) HS118) (fun hl_ => Bool.noConfusion (show true = false from hl_))) ?_
          refine doneG (by kernel_rfl) ?_ _
          refine hn107 _ _ ?_
          refine hK87 n88 _ _ (Nat.lt_succ_self _) ?_
          exact ⟨f89, s117, (cpy newslice94 (n98).toNat (newslice94.take (n98).toNat)), (w64 (n98 + ((min (newslice94.take (n98).toNat).length (newslice94.length - (n98).toNat) : Nat) : Int))), (fun i_ => [Value.int .i64 n98, Value.slice (some ⟨b34, 0, none⟩) (cpy newslice94 (n98).toNat (newslice94.take (n98).toNat)).length (w64 (vt17)).toNat, Value.int .i64 (newslice94.length : Int), Value.bool true, Value.int .i64 n98, Value.slice (some ⟨b34, 0, none⟩) (cpy newslice94 (n98).toNat (newslice94.take (n98).toNat)).length (w64 (vt17)).toNat, Value.int .i64 n98, Value.slice (cutA (some ⟨b34, 0, none⟩) ((w64 (vt17)).toNat) (n98).toNat 3) (newslice94.drop (n98).toNat).length ((w64 (vt17)).toNat - (n98).toNat), Value.slice (some ⟨b34, 0, none⟩) (cpy newslice94 (n98).toNat (newslice94.take (n98).toNat)).length (w64 (vt17)).toNat, Value.int .i64 n98, Value.slice (some ⟨b34, 0, none⟩) (newslice94.take (n98).toNat).length (w64 (vt17)).toNat, Value.int .i64 ((min (newslice94.take (n98).toNat).length (newslice94.length - (n98).toNat) : Nat) : Int), Value.int .i64 (w64 (n98 + ((min (newslice94.take (n98).toNat).length (newslice94.length - (n98).toNat) : Nat) : Int)))].getD i_ undef), L90, HS118, HO119, ((cpy_lenI c114 c115).trans HL97), h, (by kernel_rfl)⟩
        · have c104 : ¬ (n98 < (newslice94.length : Int)) := c104
          refine wpRwI 37 (x := (decide (n98 < (newslice94.length : Int)))) (v := false) (by kernel_rfl) (decide_eq_false c104) ?_
          refine condF (by kernel_rfl) ?_
          refine wp_exit ?_
          refine hx49 _ _ ?_
          exact J130 f89 s95 newslice94 (fun i_ => [Value.int .i64 n98, Value.slice (some ⟨b34, 0, none⟩) (cpy (List.replicate (w64 (vt17)).toNat ((⟨0, 0, ([] : List S_Bound)⟩ : S_Cells) : S_Cells)) 0 x1).length (w64 (vt17)).toNat, Value.slice (some ⟨b34, 0, none⟩) (cpy (List.replicate (w64 (vt17)).toNat ((⟨0, 0, ([] : List S_Bound)⟩ : S_Cells) : S_Cells)) 0 x1).length (w64 (vt17)).toNat, Value.int .i64 n98, Value.slice (some ⟨b34, 0, none⟩) newslice94.length (w64 (vt17)).toNat, Value.int .i64 (newslice94.length : Int), Value.bool false, (j93 4), (j93 5), (j93 6), (j93 7), (j93 8), (j93 9), (j93 10), (j93 11), (j93 12)].getD i_ undef) W91 _ L90 h HS92 HO96 HL97 (by kernel_rfl)

set_option maxRecDepth 100000 in
set_option maxHeartbeats 4000000 in
theorem bound_Check_Quanta.calls (k : Nat)  (b1 : S_Bound) {t w : World} {f : FM} {H : List Seg} (HS : St t w f (H)) (r1 : Int) (h : bound_Check_Quanta k b1 = some r1) :
    Calls Try.prog 71 #[.agg #[.int .i64 b1.Lo, .int .i64 b1.Hi, .bool b1.Unknown]] w (fun e w' => ∃ (g : FM), e = .returned (Value.int .i64 r1) ∧ FM.le f g ∧ St t w' g (H)) := by
  unfold bound_Check_Quanta at h
  refine enter Try.func71 rfl (tm := #[.agg #[iV b1.Lo, iV b1.Hi, .bool b1.Unknown], uV, uV, uV, uV, uV, uV, uV, uV, uV, uV, uV, uV, uV, uV, uV, uV, uV, uV, uV, uV, uV, uV, uV, uV, uV, uV, uV, uV, uV, uV, uV, uV, uV, uV, uV, uV]) (by kernel_rfl) ?_
  intro B hret hnor hnp
  refine wp_seq_k (fun K2 hK3 => ?_)
  refine wp_region_lit ?_
  refine seqK rfl (does_box (cs := #[.int .i64 b1.Lo, .int .i64 b1.Hi, .bool b1.Unknown]) rfl (by kernel_rfl : _ = Value.agg #[.int .i64 b1.Lo, .int .i64 b1.Hi, .bool b1.Unknown]) rfl HS ?_)
  intro b4 W5 HS6
  refine seqS1 (a' := ⟨#[.agg #[iV b1.Lo, iV b1.Hi, .bool b1.Unknown], .pointer (some ⟨b4, 0, none⟩), iV 0, uV, uV, uV, uV, uV, uV, uV, uV, uV, uV, uV, uV, uV, uV, uV, uV, uV, uV, uV, uV, uV, uV, uV, uV, uV, uV, uV, uV, uV, uV, uV, uV, uV, uV], []⟩) (by kernel_rfl) ?_
  refine wpList_nil ?_
  refine hK3 _ _ ?_
  refine wp_seq_k (fun K8 hK9 => ?_)
  refine blockK (fun B10 hx11 hn12 hr13 ho14 hp15 => ?_)
  refine wp_seq_k (fun K17 hK18 => ?_)
  refine wp_region_lit ?_
  refine seqL1 (by kernel_rfl) ?_
  refine seqK rfl (does_run (run_load rfl Try.underlying4 rfl (by kernel_rfl : _ = Value.pointer (some ⟨b4, 2, none⟩)) (HS6.cell 2)) ?_)
  refine seqS1 (a' := ⟨#[.agg #[iV b1.Lo, iV b1.Hi, .bool b1.Unknown], .pointer (some ⟨b4, 0, none⟩), iV 0, uV, .pointer (some ⟨b4, 2, none⟩), .bool b1.Unknown, .bool b1.Unknown, uV, uV, uV, uV, uV, uV, uV, uV, uV, uV, uV, uV, uV, uV, uV, uV, uV, uV, uV, uV, uV, uV, uV, uV, uV, uV, uV, uV, uV, uV], []⟩) (by kernel_rfl) ?_
  have hq_ := ite_some h; clear h; rcases hq_ with ⟨c19, h⟩ | ⟨c19, h⟩
  · have c19 : b1.Unknown = true := c19
    refine seqRwI 5 (x := b1.Unknown) (v := true) (by kernel_rfl) c19 ?_
    refine seqRwI 6 (x := b1.Unknown) (v := true) (by kernel_rfl) c19 ?_
    refine seqL1 (by kernel_rfl) ?_
    refine seqG (by kernel_rfl) (does_run (run_load rfl Try.underlying42 rfl (by kernel_rfl : _ = Value.pointer (some ⟨b4, 0, none⟩)) (HS6.cell 0)) ?_)
    refine seqS2 (a' := ⟨#[.agg #[iV b1.Lo, iV b1.Hi, .bool b1.Unknown], .pointer (some ⟨b4, 0, none⟩), iV 0, uV, .pointer (some ⟨b4, 2, none⟩), .bool true, .bool true, .pointer (some ⟨b4, 0, none⟩), iV b1.Lo, .bool (b1.Lo != 0), .bool (b1.Lo != 0), uV, uV, uV, uV, uV, uV, uV, uV, uV, uV, uV, uV, uV, uV, uV, uV, uV, uV, uV, uV, uV, uV, uV, uV, uV, uV], []⟩) (by kernel_rfl) ?_
    have hq_ := ite_some h; clear h; rcases hq_ with ⟨c20, h⟩ | ⟨c20, h⟩
    · have c20 : b1.Lo ≠ 0 := c20
      refine seqRwI 9 (x := (b1.Lo != 0)) (v := true) (by kernel_rfl) (bne_iff_ne.mpr c20) ?_
      refine seqRwI 10 (x := (b1.Lo != 0)) (v := true) (by kernel_rfl) (bne_iff_ne.mpr c20) ?_
      refine seqS6 (a' := ⟨#[.agg #[iV b1.Lo, iV b1.Hi, .bool b1.Unknown], .pointer (some ⟨b4, 0, none⟩), iV 0, .bool true, .pointer (some ⟨b4, 2, none⟩), .bool true, .bool true, .pointer (some ⟨b4, 0, none⟩), iV b1.Lo, .bool true, .bool true, uV, uV, uV, .bool true, .bool true, uV, uV, uV, uV, uV, uV, uV, uV, uV, uV, uV, uV, uV, uV, uV, uV, uV, uV, uV, uV, uV], []⟩) (by kernel_rfl) ?_
      refine wpList_nil ?_
      refine hK18 _ _ ?_
      refine condT (by kernel_rfl) ?_
      refine wp_seq_k (fun K21 hK22 => ?_)
      refine wp_region_lit ?_
      refine seqS1 (a' := ⟨#[.agg #[iV b1.Lo, iV b1.Hi, .bool b1.Unknown], .pointer (some ⟨b4, 0, none⟩), iV 3, .bool true, .pointer (some ⟨b4, 2, none⟩), .bool true, .bool true, .pointer (some ⟨b4, 0, none⟩), iV b1.Lo, .bool true, .bool true, uV, uV, uV, .bool true, .bool true, uV, uV, uV, uV, uV, uV, uV, uV, uV, uV, uV, uV, uV, uV, uV, uV, uV, uV, uV, uV, uV], []⟩) (by kernel_rfl) ?_
      refine wpList_nil ?_
      refine hK22 _ _ ?_
      refine wp_ret ?_
      refine hr13 _ _ ?_
      refine hret _ _ ?_
      refine ends_still (v := Value.int .i64 3) (by kernel_rfl) (by kernel_rfl) ?_
      have HS61 := HS6.drop
      injection h with h
      subst h
      exact ⟨f, rfl, FM.le.refl _, HS61⟩
    · have c20 : ¬ (b1.Lo ≠ 0) := c20
      refine seqRwI 9 (x := (b1.Lo != 0)) (v := false) (by kernel_rfl) (bne_eq_false_iff_eq.mpr (Decidable.of_not_not c20)) ?_
      refine seqRwI 10 (x := (b1.Lo != 0)) (v := false) (by kernel_rfl) (bne_eq_false_iff_eq.mpr (Decidable.of_not_not c20)) ?_
      refine seqL1 (by kernel_rfl) ?_
      refine seqG (by kernel_rfl) (does_run (run_load rfl Try.underlying42 rfl (by kernel_rfl : _ = Value.pointer (some ⟨b4, 1, none⟩)) (HS6.cell 1)) ?_)
      refine seqS4 (a' := ⟨#[.agg #[iV b1.Lo, iV b1.Hi, .bool b1.Unknown], .pointer (some ⟨b4, 0, none⟩), iV 0, .bool (b1.Hi != 0), .pointer (some ⟨b4, 2, none⟩), .bool true, .bool true, .pointer (some ⟨b4, 0, none⟩), iV b1.Lo, .bool false, .bool false, .pointer (some ⟨b4, 1, none⟩), iV b1.Hi, .bool (b1.Hi != 0), .bool (b1.Hi != 0), .bool (b1.Hi != 0), uV, uV, uV, uV, uV, uV, uV, uV, uV, uV, uV, uV, uV, uV, uV, uV, uV, uV, uV, uV, uV], []⟩) (by kernel_rfl) ?_
      refine wpList_nil ?_
      refine hK18 _ _ ?_
      have hq_ := ite_some h; clear h; rcases hq_ with ⟨c24, h⟩ | ⟨c24, h⟩
      · have c24 : b1.Hi ≠ 0 := c24
        refine wpRwI 3 (x := (b1.Hi != 0)) (v := true) (by kernel_rfl) (bne_iff_ne.mpr c24) ?_
        refine wpRwI 13 (x := (b1.Hi != 0)) (v := true) (by kernel_rfl) (bne_iff_ne.mpr c24) ?_
        refine wpRwI 14 (x := (b1.Hi != 0)) (v := true) (by kernel_rfl) (bne_iff_ne.mpr c24) ?_
        refine wpRwI 15 (x := (b1.Hi != 0)) (v := true) (by kernel_rfl) (bne_iff_ne.mpr c24) ?_
        refine condT (by kernel_rfl) ?_
        refine wp_seq_k (fun K25 hK26 => ?_)
        refine wp_region_lit ?_
        refine seqS1 (a' := ⟨#[.agg #[iV b1.Lo, iV b1.Hi, .bool b1.Unknown], .pointer (some ⟨b4, 0, none⟩), iV 3, .bool true, .pointer (some ⟨b4, 2, none⟩), .bool true, .bool true, .pointer (some ⟨b4, 0, none⟩), iV b1.Lo, .bool false, .bool false, .pointer (some ⟨b4, 1, none⟩), iV b1.Hi, .bool true, .bool true, .bool true, uV, uV, uV, uV, uV, uV, uV, uV, uV, uV, uV, uV, uV, uV, uV, uV, uV, uV, uV, uV, uV], []⟩) (by kernel_rfl) ?_
        refine wpList_nil ?_
        refine hK26 _ _ ?_
        refine wp_ret ?_
        refine hr13 _ _ ?_
        refine hret _ _ ?_
        refine ends_still (v := Value.int .i64 3) (by kernel_rfl) (by kernel_rfl) ?_
        have HS62 := HS6.drop
        injection h with h
        subst h
        exact ⟨f, rfl, FM.le.refl _, HS62⟩
      · have c24 : ¬ (b1.Hi ≠ 0) := c24
        refine wpRwI 3 (x := (b1.Hi != 0)) (v := false) (by kernel_rfl) (bne_eq_false_iff_eq.mpr (Decidable.of_not_not c24)) ?_
        refine wpRwI 13 (x := (b1.Hi != 0)) (v := false) (by kernel_rfl) (bne_eq_false_iff_eq.mpr (Decidable.of_not_not c24)) ?_
        refine wpRwI 14 (x := (b1.Hi != 0)) (v := false) (by kernel_rfl) (bne_eq_false_iff_eq.mpr (Decidable.of_not_not c24)) ?_
        refine wpRwI 15 (x := (b1.Hi != 0)) (v := false) (by kernel_rfl) (bne_eq_false_iff_eq.mpr (Decidable.of_not_not c24)) ?_
        refine condF (by kernel_rfl) ?_
        refine wp_seq_k (fun K27 hK28 => ?_)
        refine wp_region_lit ?_
        refine seqL1 (by kernel_rfl) ?_
        refine seqK rfl (does_run (run_load rfl Try.underlying42 rfl (by kernel_rfl : _ = Value.pointer (some ⟨b4, 0, none⟩)) (HS6.cell 0)) ?_)
        refine seqL1 (by kernel_rfl) ?_
        refine seqK rfl (does_run (run_load rfl Try.underlying42 rfl (by kernel_rfl : _ = Value.pointer (some ⟨b4, 1, none⟩)) (HS6.cell 1)) ?_)
        refine seqS3 (a' := ⟨#[.agg #[iV b1.Lo, iV b1.Hi, .bool b1.Unknown], .pointer (some ⟨b4, 0, none⟩), iV 0, .bool false, .pointer (some ⟨b4, 2, none⟩), .bool true, .bool true, .pointer (some ⟨b4, 0, none⟩), iV b1.Lo, .bool false, .bool false, .pointer (some ⟨b4, 1, none⟩), iV b1.Hi, .bool false, .bool false, .bool false, uV, .pointer (some ⟨b4, 0, none⟩), iV b1.Lo, .pointer (some ⟨b4, 1, none⟩), iV b1.Hi, iV (mn b1.Lo b1.Hi), .bool (decide ((mn b1.Lo b1.Hi) < (-1152921504606846976))), .bool (decide ((mn b1.Lo b1.Hi) < (-1152921504606846976))), uV, uV, uV, uV, uV, uV, uV, uV, uV, uV, uV, uV, uV], []⟩) (by kernel_rfl) ?_
        have hq_ := ite_some h; clear h; rcases hq_ with ⟨c29, h⟩ | ⟨c29, h⟩
        · have c29 : (mn b1.Lo b1.Hi) < (-1152921504606846976) := c29
          refine seqRwI 22 (x := (decide ((mn b1.Lo b1.Hi) < (-1152921504606846976)))) (v := true) (by kernel_rfl) (decide_eq_true c29) ?_
          refine seqRwI 23 (x := (decide ((mn b1.Lo b1.Hi) < (-1152921504606846976)))) (v := true) (by kernel_rfl) (decide_eq_true c29) ?_
          refine seqS8 (a' := ⟨#[.agg #[iV b1.Lo, iV b1.Hi, .bool b1.Unknown], .pointer (some ⟨b4, 0, none⟩), iV 0, .bool false, .pointer (some ⟨b4, 2, none⟩), .bool true, .bool true, .pointer (some ⟨b4, 0, none⟩), iV b1.Lo, .bool false, .bool false, .pointer (some ⟨b4, 1, none⟩), iV b1.Hi, .bool false, .bool false, .bool false, .bool true, .pointer (some ⟨b4, 0, none⟩), iV b1.Lo, .pointer (some ⟨b4, 1, none⟩), iV b1.Hi, iV (mn b1.Lo b1.Hi), .bool true, .bool true, uV, uV, uV, uV, uV, uV, .bool true, uV, uV, uV, uV, uV, uV], []⟩) (by kernel_rfl) ?_
          refine wpList_nil ?_
          refine hK28 _ _ ?_
          refine condT (by kernel_rfl) ?_
          refine wp_seq_k (fun K30 hK31 => ?_)
          refine wp_region_lit ?_
          refine seqS1 (a' := ⟨#[.agg #[iV b1.Lo, iV b1.Hi, .bool b1.Unknown], .pointer (some ⟨b4, 0, none⟩), iV 4, .bool false, .pointer (some ⟨b4, 2, none⟩), .bool true, .bool true, .pointer (some ⟨b4, 0, none⟩), iV b1.Lo, .bool false, .bool false, .pointer (some ⟨b4, 1, none⟩), iV b1.Hi, .bool false, .bool false, .bool false, .bool true, .pointer (some ⟨b4, 0, none⟩), iV b1.Lo, .pointer (some ⟨b4, 1, none⟩), iV b1.Hi, iV (mn b1.Lo b1.Hi), .bool true, .bool true, uV, uV, uV, uV, uV, uV, .bool true, uV, uV, uV, uV, uV, uV], []⟩) (by kernel_rfl) ?_
          refine wpList_nil ?_
          refine hK31 _ _ ?_
          refine wp_ret ?_
          refine hr13 _ _ ?_
          refine hret _ _ ?_
          refine ends_still (v := Value.int .i64 4) (by kernel_rfl) (by kernel_rfl) ?_
          have HS63 := HS6.drop
          injection h with h
          subst h
          exact ⟨f, rfl, FM.le.refl _, HS63⟩
        · have c29 : ¬ ((mn b1.Lo b1.Hi) < (-1152921504606846976)) := c29
          refine seqRwI 22 (x := (decide ((mn b1.Lo b1.Hi) < (-1152921504606846976)))) (v := false) (by kernel_rfl) (decide_eq_false c29) ?_
          refine seqRwI 23 (x := (decide ((mn b1.Lo b1.Hi) < (-1152921504606846976)))) (v := false) (by kernel_rfl) (decide_eq_false c29) ?_
          refine seqL1 (by kernel_rfl) ?_
          refine seqG (by kernel_rfl) (does_run (run_load rfl Try.underlying42 rfl (by kernel_rfl : _ = Value.pointer (some ⟨b4, 0, none⟩)) (HS6.cell 0)) ?_)
          refine seqL1 (by kernel_rfl) ?_
          refine seqG (by kernel_rfl) (does_run (run_load rfl Try.underlying42 rfl (by kernel_rfl : _ = Value.pointer (some ⟨b4, 1, none⟩)) (HS6.cell 1)) ?_)
          refine seqS4 (a' := ⟨#[.agg #[iV b1.Lo, iV b1.Hi, .bool b1.Unknown], .pointer (some ⟨b4, 0, none⟩), iV 0, .bool false, .pointer (some ⟨b4, 2, none⟩), .bool true, .bool true, .pointer (some ⟨b4, 0, none⟩), iV b1.Lo, .bool false, .bool false, .pointer (some ⟨b4, 1, none⟩), iV b1.Hi, .bool false, .bool false, .bool false, .bool (decide ((mx b1.Lo b1.Hi) > 1152921504606846976)), .pointer (some ⟨b4, 0, none⟩), iV b1.Lo, .pointer (some ⟨b4, 1, none⟩), iV b1.Hi, iV (mn b1.Lo b1.Hi), .bool false, .bool false, .pointer (some ⟨b4, 0, none⟩), iV b1.Lo, .pointer (some ⟨b4, 1, none⟩), iV b1.Hi, iV (mx b1.Lo b1.Hi), .bool (decide ((mx b1.Lo b1.Hi) > 1152921504606846976)), .bool (decide ((mx b1.Lo b1.Hi) > 1152921504606846976)), uV, uV, uV, uV, uV, uV], []⟩) (by kernel_rfl) ?_
          refine wpList_nil ?_
          refine hK28 _ _ ?_
          have hq_ := ite_some h; clear h; rcases hq_ with ⟨c33, h⟩ | ⟨c33, h⟩
          · have c33 : (mx b1.Lo b1.Hi) > 1152921504606846976 := c33
            refine wpRwI 16 (x := (decide ((mx b1.Lo b1.Hi) > 1152921504606846976))) (v := true) (by kernel_rfl) (decide_eq_true c33) ?_
            refine wpRwI 29 (x := (decide ((mx b1.Lo b1.Hi) > 1152921504606846976))) (v := true) (by kernel_rfl) (decide_eq_true c33) ?_
            refine wpRwI 30 (x := (decide ((mx b1.Lo b1.Hi) > 1152921504606846976))) (v := true) (by kernel_rfl) (decide_eq_true c33) ?_
            refine condT (by kernel_rfl) ?_
            refine wp_seq_k (fun K34 hK35 => ?_)
            refine wp_region_lit ?_
            refine seqS1 (a' := ⟨#[.agg #[iV b1.Lo, iV b1.Hi, .bool b1.Unknown], .pointer (some ⟨b4, 0, none⟩), iV 4, .bool false, .pointer (some ⟨b4, 2, none⟩), .bool true, .bool true, .pointer (some ⟨b4, 0, none⟩), iV b1.Lo, .bool false, .bool false, .pointer (some ⟨b4, 1, none⟩), iV b1.Hi, .bool false, .bool false, .bool false, .bool true, .pointer (some ⟨b4, 0, none⟩), iV b1.Lo, .pointer (some ⟨b4, 1, none⟩), iV b1.Hi, iV (mn b1.Lo b1.Hi), .bool false, .bool false, .pointer (some ⟨b4, 0, none⟩), iV b1.Lo, .pointer (some ⟨b4, 1, none⟩), iV b1.Hi, iV (mx b1.Lo b1.Hi), .bool true, .bool true, uV, uV, uV, uV, uV, uV], []⟩) (by kernel_rfl) ?_
            refine wpList_nil ?_
            refine hK35 _ _ ?_
            refine wp_ret ?_
            refine hr13 _ _ ?_
            refine hret _ _ ?_
            refine ends_still (v := Value.int .i64 4) (by kernel_rfl) (by kernel_rfl) ?_
            have HS64 := HS6.drop
            injection h with h
            subst h
            exact ⟨f, rfl, FM.le.refl _, HS64⟩
          · have c33 : ¬ ((mx b1.Lo b1.Hi) > 1152921504606846976) := c33
            refine wpRwI 16 (x := (decide ((mx b1.Lo b1.Hi) > 1152921504606846976))) (v := false) (by kernel_rfl) (decide_eq_false c33) ?_
            refine wpRwI 29 (x := (decide ((mx b1.Lo b1.Hi) > 1152921504606846976))) (v := false) (by kernel_rfl) (decide_eq_false c33) ?_
            refine wpRwI 30 (x := (decide ((mx b1.Lo b1.Hi) > 1152921504606846976))) (v := false) (by kernel_rfl) (decide_eq_false c33) ?_
            refine condF (by kernel_rfl) ?_
            refine wp_seq_k (fun K36 hK37 => ?_)
            refine wp_region_lit ?_
            refine seqL1 (by kernel_rfl) ?_
            refine seqK rfl (does_run (run_load rfl Try.underlying42 rfl (by kernel_rfl : _ = Value.pointer (some ⟨b4, 0, none⟩)) (HS6.cell 0)) ?_)
            refine seqL1 (by kernel_rfl) ?_
            refine seqK rfl (does_run (run_load rfl Try.underlying42 rfl (by kernel_rfl : _ = Value.pointer (some ⟨b4, 1, none⟩)) (HS6.cell 1)) ?_)
            refine seqS2 (a' := ⟨#[.agg #[iV b1.Lo, iV b1.Hi, .bool b1.Unknown], .pointer (some ⟨b4, 0, none⟩), iV 0, .bool false, .pointer (some ⟨b4, 2, none⟩), .bool true, .bool true, .pointer (some ⟨b4, 0, none⟩), iV b1.Lo, .bool false, .bool false, .pointer (some ⟨b4, 1, none⟩), iV b1.Hi, .bool false, .bool false, .bool false, .bool false, .pointer (some ⟨b4, 0, none⟩), iV b1.Lo, .pointer (some ⟨b4, 1, none⟩), iV b1.Hi, iV (mn b1.Lo b1.Hi), .bool false, .bool false, .pointer (some ⟨b4, 0, none⟩), iV b1.Lo, .pointer (some ⟨b4, 1, none⟩), iV b1.Hi, iV (mx b1.Lo b1.Hi), .bool false, .bool false, .bool (decide (b1.Lo > b1.Hi)), .pointer (some ⟨b4, 0, none⟩), iV b1.Lo, .pointer (some ⟨b4, 1, none⟩), iV b1.Hi, .bool (decide (b1.Lo > b1.Hi))], []⟩) (by kernel_rfl) ?_
            refine wpList_nil ?_
            refine hK37 _ _ ?_
            have hq_ := ite_some h; clear h; rcases hq_ with ⟨c39, h⟩ | ⟨c39, h⟩
            · have c39 : b1.Lo > b1.Hi := c39
              refine wpRwI 31 (x := (decide (b1.Lo > b1.Hi))) (v := true) (by kernel_rfl) (decide_eq_true c39) ?_
              refine wpRwI 36 (x := (decide (b1.Lo > b1.Hi))) (v := true) (by kernel_rfl) (decide_eq_true c39) ?_
              refine condT (by kernel_rfl) ?_
              refine wp_seq_k (fun K40 hK41 => ?_)
              refine wp_region_lit ?_
              refine seqS1 (a' := ⟨#[.agg #[iV b1.Lo, iV b1.Hi, .bool b1.Unknown], .pointer (some ⟨b4, 0, none⟩), iV 11, .bool false, .pointer (some ⟨b4, 2, none⟩), .bool true, .bool true, .pointer (some ⟨b4, 0, none⟩), iV b1.Lo, .bool false, .bool false, .pointer (some ⟨b4, 1, none⟩), iV b1.Hi, .bool false, .bool false, .bool false, .bool false, .pointer (some ⟨b4, 0, none⟩), iV b1.Lo, .pointer (some ⟨b4, 1, none⟩), iV b1.Hi, iV (mn b1.Lo b1.Hi), .bool false, .bool false, .pointer (some ⟨b4, 0, none⟩), iV b1.Lo, .pointer (some ⟨b4, 1, none⟩), iV b1.Hi, iV (mx b1.Lo b1.Hi), .bool false, .bool false, .bool true, .pointer (some ⟨b4, 0, none⟩), iV b1.Lo, .pointer (some ⟨b4, 1, none⟩), iV b1.Hi, .bool true], []⟩) (by kernel_rfl) ?_
              refine wpList_nil ?_
              refine hK41 _ _ ?_
              refine wp_ret ?_
              refine hr13 _ _ ?_
              refine hret _ _ ?_
              refine ends_still (v := Value.int .i64 11) (by kernel_rfl) (by kernel_rfl) ?_
              have HS65 := HS6.drop
              injection h with h
              subst h
              exact ⟨f, rfl, FM.le.refl _, HS65⟩
            · have c39 : ¬ (b1.Lo > b1.Hi) := c39
              refine wpRwI 31 (x := (decide (b1.Lo > b1.Hi))) (v := false) (by kernel_rfl) (decide_eq_false c39) ?_
              refine wpRwI 36 (x := (decide (b1.Lo > b1.Hi))) (v := false) (by kernel_rfl) (decide_eq_false c39) ?_
              refine condF (by kernel_rfl) ?_
              refine wp_skip ?_
              refine hn12 _ _ ?_
              refine hK9 _ _ ?_
              refine wp_seq_k (fun K57 hK58 => ?_)
              refine wp_region_lit ?_
              refine seqS1 (a' := ⟨#[.agg #[iV b1.Lo, iV b1.Hi, .bool b1.Unknown], .pointer (some ⟨b4, 0, none⟩), iV 0, .bool false, .pointer (some ⟨b4, 2, none⟩), .bool true, .bool true, .pointer (some ⟨b4, 0, none⟩), iV b1.Lo, .bool false, .bool false, .pointer (some ⟨b4, 1, none⟩), iV b1.Hi, .bool false, .bool false, .bool false, .bool false, .pointer (some ⟨b4, 0, none⟩), iV b1.Lo, .pointer (some ⟨b4, 1, none⟩), iV b1.Hi, iV (mn b1.Lo b1.Hi), .bool false, .bool false, .pointer (some ⟨b4, 0, none⟩), iV b1.Lo, .pointer (some ⟨b4, 1, none⟩), iV b1.Hi, iV (mx b1.Lo b1.Hi), .bool false, .bool false, .bool false, .pointer (some ⟨b4, 0, none⟩), iV b1.Lo, .pointer (some ⟨b4, 1, none⟩), iV b1.Hi, .bool false], []⟩) (by kernel_rfl) ?_
              refine wpList_nil ?_
              refine hK58 _ _ ?_
              refine wp_ret ?_
              refine hret _ _ ?_
              refine ends_still (v := Value.int .i64 0) (by kernel_rfl) (by kernel_rfl) ?_
              have HS69 := HS6.drop
              injection h with h
              subst h
              exact ⟨f, rfl, FM.le.refl _, HS69⟩
  · have c19 : ¬ (b1.Unknown = true) := c19
    refine seqRwI 5 (x := b1.Unknown) (v := false) (by kernel_rfl) (Bool.eq_false_iff.mpr c19) ?_
    refine seqRwI 6 (x := b1.Unknown) (v := false) (by kernel_rfl) (Bool.eq_false_iff.mpr c19) ?_
    refine seqS10 (a' := ⟨#[.agg #[iV b1.Lo, iV b1.Hi, .bool b1.Unknown], .pointer (some ⟨b4, 0, none⟩), iV 0, .bool false, .pointer (some ⟨b4, 2, none⟩), .bool false, .bool false, uV, uV, uV, uV, uV, uV, uV, uV, .bool false, uV, uV, uV, uV, uV, uV, uV, uV, uV, uV, uV, uV, uV, uV, uV, uV, uV, uV, uV, uV, uV], []⟩) (by kernel_rfl) ?_
    refine wpList_nil ?_
    refine hK18 _ _ ?_
    refine condF (by kernel_rfl) ?_
    refine wp_seq_k (fun K42 hK43 => ?_)
    refine wp_region_lit ?_
    refine seqL1 (by kernel_rfl) ?_
    refine seqK rfl (does_run (run_load rfl Try.underlying42 rfl (by kernel_rfl : _ = Value.pointer (some ⟨b4, 0, none⟩)) (HS6.cell 0)) ?_)
    refine seqL1 (by kernel_rfl) ?_
    refine seqK rfl (does_run (run_load rfl Try.underlying42 rfl (by kernel_rfl : _ = Value.pointer (some ⟨b4, 1, none⟩)) (HS6.cell 1)) ?_)
    refine seqS3 (a' := ⟨#[.agg #[iV b1.Lo, iV b1.Hi, .bool b1.Unknown], .pointer (some ⟨b4, 0, none⟩), iV 0, .bool false, .pointer (some ⟨b4, 2, none⟩), .bool false, .bool false, uV, uV, uV, uV, uV, uV, uV, uV, .bool false, uV, .pointer (some ⟨b4, 0, none⟩), iV b1.Lo, .pointer (some ⟨b4, 1, none⟩), iV b1.Hi, iV (mn b1.Lo b1.Hi), .bool (decide ((mn b1.Lo b1.Hi) < (-1152921504606846976))), .bool (decide ((mn b1.Lo b1.Hi) < (-1152921504606846976))), uV, uV, uV, uV, uV, uV, uV, uV, uV, uV, uV, uV, uV], []⟩) (by kernel_rfl) ?_
    have hq_ := ite_some h; clear h; rcases hq_ with ⟨c44, h⟩ | ⟨c44, h⟩
    · have c44 : (mn b1.Lo b1.Hi) < (-1152921504606846976) := c44
      refine seqRwI 22 (x := (decide ((mn b1.Lo b1.Hi) < (-1152921504606846976)))) (v := true) (by kernel_rfl) (decide_eq_true c44) ?_
      refine seqRwI 23 (x := (decide ((mn b1.Lo b1.Hi) < (-1152921504606846976)))) (v := true) (by kernel_rfl) (decide_eq_true c44) ?_
      refine seqS8 (a' := ⟨#[.agg #[iV b1.Lo, iV b1.Hi, .bool b1.Unknown], .pointer (some ⟨b4, 0, none⟩), iV 0, .bool false, .pointer (some ⟨b4, 2, none⟩), .bool false, .bool false, uV, uV, uV, uV, uV, uV, uV, uV, .bool false, .bool true, .pointer (some ⟨b4, 0, none⟩), iV b1.Lo, .pointer (some ⟨b4, 1, none⟩), iV b1.Hi, iV (mn b1.Lo b1.Hi), .bool true, .bool true, uV, uV, uV, uV, uV, uV, .bool true, uV, uV, uV, uV, uV, uV], []⟩) (by kernel_rfl) ?_
      refine wpList_nil ?_
      refine hK43 _ _ ?_
      refine condT (by kernel_rfl) ?_
      refine wp_seq_k (fun K45 hK46 => ?_)
      refine wp_region_lit ?_
      refine seqS1 (a' := ⟨#[.agg #[iV b1.Lo, iV b1.Hi, .bool b1.Unknown], .pointer (some ⟨b4, 0, none⟩), iV 4, .bool false, .pointer (some ⟨b4, 2, none⟩), .bool false, .bool false, uV, uV, uV, uV, uV, uV, uV, uV, .bool false, .bool true, .pointer (some ⟨b4, 0, none⟩), iV b1.Lo, .pointer (some ⟨b4, 1, none⟩), iV b1.Hi, iV (mn b1.Lo b1.Hi), .bool true, .bool true, uV, uV, uV, uV, uV, uV, .bool true, uV, uV, uV, uV, uV, uV], []⟩) (by kernel_rfl) ?_
      refine wpList_nil ?_
      refine hK46 _ _ ?_
      refine wp_ret ?_
      refine hr13 _ _ ?_
      refine hret _ _ ?_
      refine ends_still (v := Value.int .i64 4) (by kernel_rfl) (by kernel_rfl) ?_
      have HS66 := HS6.drop
      injection h with h
      subst h
      exact ⟨f, rfl, FM.le.refl _, HS66⟩
    · have c44 : ¬ ((mn b1.Lo b1.Hi) < (-1152921504606846976)) := c44
      refine seqRwI 22 (x := (decide ((mn b1.Lo b1.Hi) < (-1152921504606846976)))) (v := false) (by kernel_rfl) (decide_eq_false c44) ?_
      refine seqRwI 23 (x := (decide ((mn b1.Lo b1.Hi) < (-1152921504606846976)))) (v := false) (by kernel_rfl) (decide_eq_false c44) ?_
      refine seqL1 (by kernel_rfl) ?_
      refine seqG (by kernel_rfl) (does_run (run_load rfl Try.underlying42 rfl (by kernel_rfl : _ = Value.pointer (some ⟨b4, 0, none⟩)) (HS6.cell 0)) ?_)
      refine seqL1 (by kernel_rfl) ?_
      refine seqG (by kernel_rfl) (does_run (run_load rfl Try.underlying42 rfl (by kernel_rfl : _ = Value.pointer (some ⟨b4, 1, none⟩)) (HS6.cell 1)) ?_)
      refine seqS4 (a' := ⟨#[.agg #[iV b1.Lo, iV b1.Hi, .bool b1.Unknown], .pointer (some ⟨b4, 0, none⟩), iV 0, .bool false, .pointer (some ⟨b4, 2, none⟩), .bool false, .bool false, uV, uV, uV, uV, uV, uV, uV, uV, .bool false, .bool (decide ((mx b1.Lo b1.Hi) > 1152921504606846976)), .pointer (some ⟨b4, 0, none⟩), iV b1.Lo, .pointer (some ⟨b4, 1, none⟩), iV b1.Hi, iV (mn b1.Lo b1.Hi), .bool false, .bool false, .pointer (some ⟨b4, 0, none⟩), iV b1.Lo, .pointer (some ⟨b4, 1, none⟩), iV b1.Hi, iV (mx b1.Lo b1.Hi), .bool (decide ((mx b1.Lo b1.Hi) > 1152921504606846976)), .bool (decide ((mx b1.Lo b1.Hi) > 1152921504606846976)), uV, uV, uV, uV, uV, uV], []⟩) (by kernel_rfl) ?_
      refine wpList_nil ?_
      refine hK43 _ _ ?_
      have hq_ := ite_some h; clear h; rcases hq_ with ⟨c48, h⟩ | ⟨c48, h⟩
      · have c48 : (mx b1.Lo b1.Hi) > 1152921504606846976 := c48
        refine wpRwI 16 (x := (decide ((mx b1.Lo b1.Hi) > 1152921504606846976))) (v := true) (by kernel_rfl) (decide_eq_true c48) ?_
        refine wpRwI 29 (x := (decide ((mx b1.Lo b1.Hi) > 1152921504606846976))) (v := true) (by kernel_rfl) (decide_eq_true c48) ?_
        refine wpRwI 30 (x := (decide ((mx b1.Lo b1.Hi) > 1152921504606846976))) (v := true) (by kernel_rfl) (decide_eq_true c48) ?_
        refine condT (by kernel_rfl) ?_
        refine wp_seq_k (fun K49 hK50 => ?_)
        refine wp_region_lit ?_
        refine seqS1 (a' := ⟨#[.agg #[iV b1.Lo, iV b1.Hi, .bool b1.Unknown], .pointer (some ⟨b4, 0, none⟩), iV 4, .bool false, .pointer (some ⟨b4, 2, none⟩), .bool false, .bool false, uV, uV, uV, uV, uV, uV, uV, uV, .bool false, .bool true, .pointer (some ⟨b4, 0, none⟩), iV b1.Lo, .pointer (some ⟨b4, 1, none⟩), iV b1.Hi, iV (mn b1.Lo b1.Hi), .bool false, .bool false, .pointer (some ⟨b4, 0, none⟩), iV b1.Lo, .pointer (some ⟨b4, 1, none⟩), iV b1.Hi, iV (mx b1.Lo b1.Hi), .bool true, .bool true, uV, uV, uV, uV, uV, uV], []⟩) (by kernel_rfl) ?_
        refine wpList_nil ?_
        refine hK50 _ _ ?_
        refine wp_ret ?_
        refine hr13 _ _ ?_
        refine hret _ _ ?_
        refine ends_still (v := Value.int .i64 4) (by kernel_rfl) (by kernel_rfl) ?_
        have HS67 := HS6.drop
        injection h with h
        subst h
        exact ⟨f, rfl, FM.le.refl _, HS67⟩
      · have c48 : ¬ ((mx b1.Lo b1.Hi) > 1152921504606846976) := c48
        refine wpRwI 16 (x := (decide ((mx b1.Lo b1.Hi) > 1152921504606846976))) (v := false) (by kernel_rfl) (decide_eq_false c48) ?_
        refine wpRwI 29 (x := (decide ((mx b1.Lo b1.Hi) > 1152921504606846976))) (v := false) (by kernel_rfl) (decide_eq_false c48) ?_
        refine wpRwI 30 (x := (decide ((mx b1.Lo b1.Hi) > 1152921504606846976))) (v := false) (by kernel_rfl) (decide_eq_false c48) ?_
        refine condF (by kernel_rfl) ?_
        refine wp_seq_k (fun K51 hK52 => ?_)
        refine wp_region_lit ?_
        refine seqL1 (by kernel_rfl) ?_
        refine seqK rfl (does_run (run_load rfl Try.underlying42 rfl (by kernel_rfl : _ = Value.pointer (some ⟨b4, 0, none⟩)) (HS6.cell 0)) ?_)
        refine seqL1 (by kernel_rfl) ?_
        refine seqK rfl (does_run (run_load rfl Try.underlying42 rfl (by kernel_rfl : _ = Value.pointer (some ⟨b4, 1, none⟩)) (HS6.cell 1)) ?_)
        refine seqS2 (a' := ⟨#[.agg #[iV b1.Lo, iV b1.Hi, .bool b1.Unknown], .pointer (some ⟨b4, 0, none⟩), iV 0, .bool false, .pointer (some ⟨b4, 2, none⟩), .bool false, .bool false, uV, uV, uV, uV, uV, uV, uV, uV, .bool false, .bool false, .pointer (some ⟨b4, 0, none⟩), iV b1.Lo, .pointer (some ⟨b4, 1, none⟩), iV b1.Hi, iV (mn b1.Lo b1.Hi), .bool false, .bool false, .pointer (some ⟨b4, 0, none⟩), iV b1.Lo, .pointer (some ⟨b4, 1, none⟩), iV b1.Hi, iV (mx b1.Lo b1.Hi), .bool false, .bool false, .bool (decide (b1.Lo > b1.Hi)), .pointer (some ⟨b4, 0, none⟩), iV b1.Lo, .pointer (some ⟨b4, 1, none⟩), iV b1.Hi, .bool (decide (b1.Lo > b1.Hi))], []⟩) (by kernel_rfl) ?_
        refine wpList_nil ?_
        refine hK52 _ _ ?_
        have hq_ := ite_some h; clear h; rcases hq_ with ⟨c54, h⟩ | ⟨c54, h⟩
        · have c54 : b1.Lo > b1.Hi := c54
          refine wpRwI 31 (x := (decide (b1.Lo > b1.Hi))) (v := true) (by kernel_rfl) (decide_eq_true c54) ?_
          refine wpRwI 36 (x := (decide (b1.Lo > b1.Hi))) (v := true) (by kernel_rfl) (decide_eq_true c54) ?_
          refine condT (by kernel_rfl) ?_
          refine wp_seq_k (fun K55 hK56 => ?_)
          refine wp_region_lit ?_
          refine seqS1 (a' := ⟨#[.agg #[iV b1.Lo, iV b1.Hi, .bool b1.Unknown], .pointer (some ⟨b4, 0, none⟩), iV 11, .bool false, .pointer (some ⟨b4, 2, none⟩), .bool false, .bool false, uV, uV, uV, uV, uV, uV, uV, uV, .bool false, .bool false, .pointer (some ⟨b4, 0, none⟩), iV b1.Lo, .pointer (some ⟨b4, 1, none⟩), iV b1.Hi, iV (mn b1.Lo b1.Hi), .bool false, .bool false, .pointer (some ⟨b4, 0, none⟩), iV b1.Lo, .pointer (some ⟨b4, 1, none⟩), iV b1.Hi, iV (mx b1.Lo b1.Hi), .bool false, .bool false, .bool true, .pointer (some ⟨b4, 0, none⟩), iV b1.Lo, .pointer (some ⟨b4, 1, none⟩), iV b1.Hi, .bool true], []⟩) (by kernel_rfl) ?_
          refine wpList_nil ?_
          refine hK56 _ _ ?_
          refine wp_ret ?_
          refine hr13 _ _ ?_
          refine hret _ _ ?_
          refine ends_still (v := Value.int .i64 11) (by kernel_rfl) (by kernel_rfl) ?_
          have HS68 := HS6.drop
          injection h with h
          subst h
          exact ⟨f, rfl, FM.le.refl _, HS68⟩
        · have c54 : ¬ (b1.Lo > b1.Hi) := c54
          refine wpRwI 31 (x := (decide (b1.Lo > b1.Hi))) (v := false) (by kernel_rfl) (decide_eq_false c54) ?_
          refine wpRwI 36 (x := (decide (b1.Lo > b1.Hi))) (v := false) (by kernel_rfl) (decide_eq_false c54) ?_
          refine condF (by kernel_rfl) ?_
          refine wp_skip ?_
          refine hn12 _ _ ?_
          refine hK9 _ _ ?_
          refine wp_seq_k (fun K59 hK60 => ?_)
          refine wp_region_lit ?_
          refine seqS1 (a' := ⟨#[.agg #[iV b1.Lo, iV b1.Hi, .bool b1.Unknown], .pointer (some ⟨b4, 0, none⟩), iV 0, .bool false, .pointer (some ⟨b4, 2, none⟩), .bool false, .bool false, uV, uV, uV, uV, uV, uV, uV, uV, .bool false, .bool false, .pointer (some ⟨b4, 0, none⟩), iV b1.Lo, .pointer (some ⟨b4, 1, none⟩), iV b1.Hi, iV (mn b1.Lo b1.Hi), .bool false, .bool false, .pointer (some ⟨b4, 0, none⟩), iV b1.Lo, .pointer (some ⟨b4, 1, none⟩), iV b1.Hi, iV (mx b1.Lo b1.Hi), .bool false, .bool false, .bool false, .pointer (some ⟨b4, 0, none⟩), iV b1.Lo, .pointer (some ⟨b4, 1, none⟩), iV b1.Hi, .bool false], []⟩) (by kernel_rfl) ?_
          refine wpList_nil ?_
          refine hK60 _ _ ?_
          refine wp_ret ?_
          refine hret _ _ ?_
          refine ends_still (v := Value.int .i64 0) (by kernel_rfl) (by kernel_rfl) ?_
          have HS70 := HS6.drop
          injection h with h
          subst h
          exact ⟨f, rfl, FM.le.refl _, HS70⟩

set_option maxRecDepth 100000 in
set_option maxHeartbeats 4000000 in
theorem bound_None_Quanta.calls (k : Nat)   {t w : World} {f : FM} {H : List Seg} (HS : St t w f (H)) (r1 : S_Bound) (h : bound_None_Quanta k = some r1) :
    Calls Try.prog 32 #[] w (fun e w' => ∃ (g : FM), e = .returned (Value.agg #[.int .i64 r1.Lo, .int .i64 r1.Hi, .bool r1.Unknown]) ∧ FM.le f g ∧ St t w' g (H)) := by
  unfold bound_None_Quanta at h
  refine enter Try.func32 rfl (tm := #[uV, uV]) (by kernel_rfl) ?_
  intro B hret hnor hnp
  refine wp_seq_k (fun K1 hK2 => ?_)
  refine wp_region_lit ?_
  refine seqK rfl (does_alloc (z := Value.agg #[.int .i64 0, .int .i64 0, .bool false]) (cs := #[.int .i64 0, .int .i64 0, .bool false]) rfl (by kernel_rfl) rfl HS ?_)
  intro b3 W4 HS5
  refine wpList_nil ?_
  refine hK2 _ _ ?_
  refine wp_seq_k (fun K7 hK8 => ?_)
  refine wp_region_lit ?_
  refine seqL1 (by kernel_rfl) ?_
  refine seqK rfl (does_store (n := 3) (vs := [.int .i64 0, .int .i64 0, .bool true]) (cs' := #[.int .i64 0, .int .i64 0, .bool true]) rfl (by kernel_rfl) (by kernel_rfl : _ = Value.pointer (some ⟨b3, 0, none⟩)) (by kernel_rfl : _ = Value.agg #[.int .i64 0, .int .i64 0, .bool true]) rfl rfl (by intro u_ hu_; simp only [List.mem_cons, List.not_mem_nil, or_false] at hu_; rcases hu_ with rfl | rfl | rfl <;> rfl) HS5 (Nat.le_of_ble_eq_true rfl) (by kernel_rfl) ?_)
  intro W9 HS10
  refine wpList_nil ?_
  refine hK8 _ _ ?_
  refine wp_ret ?_
  refine hret _ _ ?_
  refine ends (v := Value.agg #[.int .i64 0, .int .i64 0, .bool true]) (results1 (q1 := .cell 0 44) (by kernel_rfl) (resN (n := 3) (cs := [.int .i64 0, .int .i64 0, .bool true]) (by kernel_rfl : _ = Value.pointer (some ⟨b3, 0, none⟩)) Try.underlying44 rfl (by kernel_rfl) rfl (HS10.cells 0 3 _ rfl))) (by kernel_rfl) ?_
  have HS11 := HS10.drop
  injection h with h
  subst h
  exact ⟨f, rfl, FM.le.refl _, HS11⟩

set_option maxRecDepth 100000 in
set_option maxHeartbeats 4000000 in
theorem bound_Norm_Quanta.calls (k : Nat)  (b1 : S_Bound) {t w : World} {f : FM} {H : List Seg} (HS : St t w f (H)) (r1 : S_Bound) (h : bound_Norm_Quanta k b1 = some r1) :
    Calls Try.prog 45 #[.agg #[.int .i64 b1.Lo, .int .i64 b1.Hi, .bool b1.Unknown]] w (fun e w' => ∃ (g : FM), e = .returned (Value.agg #[.int .i64 r1.Lo, .int .i64 r1.Hi, .bool r1.Unknown]) ∧ FM.le f g ∧ St t w' g (H)) := by
  unfold bound_Norm_Quanta at h
  refine enter Try.func45 rfl (tm := #[.agg #[iV b1.Lo, iV b1.Hi, .bool b1.Unknown], uV, uV, uV, uV, uV, uV, uV]) (by kernel_rfl) ?_
  intro B hret hnor hnp
  refine wp_seq_k (fun K2 hK3 => ?_)
  refine wp_region_lit ?_
  refine seqK rfl (does_box (cs := #[.int .i64 b1.Lo, .int .i64 b1.Hi, .bool b1.Unknown]) rfl (by kernel_rfl : _ = Value.agg #[.int .i64 b1.Lo, .int .i64 b1.Hi, .bool b1.Unknown]) rfl HS ?_)
  intro b4 W5 HS6
  refine seqK rfl (does_alloc (z := Value.agg #[.int .i64 0, .int .i64 0, .bool false]) (cs := #[.int .i64 0, .int .i64 0, .bool false]) rfl (by kernel_rfl) rfl HS6 ?_)
  intro b8 W9 HS10
  refine wpList_nil ?_
  refine hK3 _ _ ?_
  refine wp_seq_k (fun K12 hK13 => ?_)
  refine wp_seq_k (fun K14 hK15 => ?_)
  refine wp_region_lit ?_
  refine seqK rfl (does_run (run_loadN (n := 3) rfl Try.underlying44 rfl (by kernel_rfl) (by kernel_rfl : _ = Value.pointer (some ⟨b4, 0, none⟩)) (cs := [.int .i64 b1.Lo, .int .i64 b1.Hi, .bool b1.Unknown]) rfl (HS10.u1.cells 0 3 _ rfl)) ?_)
  have hq_ := bind_some h; clear h; obtain ⟨vt16, hc17, h⟩ := hq_
  refine seqK rfl (does_call (f := 71) (args := #[.agg #[.int .i64 b1.Lo, .int .i64 b1.Hi, .bool b1.Unknown]]) (by kernel_rfl) (bound_Check_Quanta.calls k b1 HS10 vt16 hc17) ?_)
  rintro _ W20 ⟨f18, rfl, L19, HS21⟩
  refine ⟨_, rfl, ?_⟩
  refine seqS1 (a' := ⟨#[.agg #[iV b1.Lo, iV b1.Hi, .bool b1.Unknown], .pointer (some ⟨b4, 0, none⟩), .pointer (some ⟨b8, 0, none⟩), .agg #[iV b1.Lo, iV b1.Hi, .bool b1.Unknown], iV vt16, .bool (vt16 != 0), uV, uV], []⟩) (by kernel_rfl) ?_
  refine wpList_nil ?_
  refine hK15 _ _ ?_
  have hq_ := ite_some h; clear h; rcases hq_ with ⟨c23, h⟩ | ⟨c23, h⟩
  · have c23 : vt16 ≠ 0 := c23
    refine wpRwI 5 (x := (vt16 != 0)) (v := true) (by kernel_rfl) (bne_iff_ne.mpr c23) ?_
    refine condT (by kernel_rfl) ?_
    refine wp_seq_k (fun K24 hK25 => ?_)
    refine wp_region_lit ?_
    have hq_ := bind_some h; clear h; obtain ⟨vt26, hc27, h⟩ := hq_
    refine seqK rfl (does_call (f := 32) (args := #[]) (by kernel_rfl) (bound_None_Quanta.calls k  HS21 vt26 hc27) ?_)
    rintro _ W30 ⟨f28, rfl, L29, HS31⟩
    refine ⟨_, rfl, ?_⟩
    refine seqK rfl (does_store (n := 3) (vs := [.int .i64 vt26.Lo, .int .i64 vt26.Hi, .bool vt26.Unknown]) (cs' := #[.int .i64 vt26.Lo, .int .i64 vt26.Hi, .bool vt26.Unknown]) rfl (by kernel_rfl) (by kernel_rfl : _ = Value.pointer (some ⟨b8, 0, none⟩)) (by kernel_rfl : _ = Value.agg #[.int .i64 vt26.Lo, .int .i64 vt26.Hi, .bool vt26.Unknown]) rfl rfl (by intro u_ hu_; simp only [List.mem_cons, List.not_mem_nil, or_false] at hu_; rcases hu_ with rfl | rfl | rfl <;> rfl) HS31 (Nat.le_of_ble_eq_true rfl) (by kernel_rfl) ?_)
    intro W32 HS33
    refine wpList_nil ?_
    refine hK25 _ _ ?_
    refine wp_ret ?_
    refine hret _ _ ?_
    refine ends (v := Value.agg #[.int .i64 vt26.Lo, .int .i64 vt26.Hi, .bool vt26.Unknown]) (results1 (q1 := .cell 2 44) (by kernel_rfl) (resN (n := 3) (cs := [.int .i64 vt26.Lo, .int .i64 vt26.Hi, .bool vt26.Unknown]) (by kernel_rfl : _ = Value.pointer (some ⟨b8, 0, none⟩)) Try.underlying44 rfl (by kernel_rfl) rfl (HS33.cells 0 3 _ rfl))) (by kernel_rfl) ?_
    have HS38 := HS33.drop
    have HS39 := HS38.drop
    injection h with h
    subst h
    exact ⟨f28, rfl, (L19.trans L29), HS39⟩
  · have c23 : ¬ (vt16 ≠ 0) := c23
    refine wpRwI 5 (x := (vt16 != 0)) (v := false) (by kernel_rfl) (bne_eq_false_iff_eq.mpr (Decidable.of_not_not c23)) ?_
    refine condF (by kernel_rfl) ?_
    refine wp_skip ?_
    refine hK13 _ _ ?_
    refine wp_seq_k (fun K34 hK35 => ?_)
    refine wp_region_lit ?_
    refine seqK rfl (does_run (run_loadN (n := 3) rfl Try.underlying44 rfl (by kernel_rfl) (by kernel_rfl : _ = Value.pointer (some ⟨b4, 0, none⟩)) (cs := [.int .i64 b1.Lo, .int .i64 b1.Hi, .bool b1.Unknown]) rfl (HS21.u1.cells 0 3 _ rfl)) ?_)
    refine seqK rfl (does_store (n := 3) (vs := [.int .i64 b1.Lo, .int .i64 b1.Hi, .bool b1.Unknown]) (cs' := #[.int .i64 b1.Lo, .int .i64 b1.Hi, .bool b1.Unknown]) rfl (by kernel_rfl) (by kernel_rfl : _ = Value.pointer (some ⟨b8, 0, none⟩)) (by kernel_rfl : _ = Value.agg #[.int .i64 b1.Lo, .int .i64 b1.Hi, .bool b1.Unknown]) rfl rfl (by intro u_ hu_; simp only [List.mem_cons, List.not_mem_nil, or_false] at hu_; rcases hu_ with rfl | rfl | rfl <;> rfl) HS21 (Nat.le_of_ble_eq_true rfl) (by kernel_rfl) ?_)
    intro W36 HS37
    refine wpList_nil ?_
    refine hK35 _ _ ?_
    refine wp_ret ?_
    refine hret _ _ ?_
    refine ends (v := Value.agg #[.int .i64 b1.Lo, .int .i64 b1.Hi, .bool b1.Unknown]) (results1 (q1 := .cell 2 44) (by kernel_rfl) (resN (n := 3) (cs := [.int .i64 b1.Lo, .int .i64 b1.Hi, .bool b1.Unknown]) (by kernel_rfl : _ = Value.pointer (some ⟨b8, 0, none⟩)) Try.underlying44 rfl (by kernel_rfl) rfl (HS37.cells 0 3 _ rfl))) (by kernel_rfl) ?_
    have HS40 := HS37.drop
    have HS41 := HS40.drop
    injection h with h
    subst h
    exact ⟨f18, rfl, L19, HS41⟩

set_option maxRecDepth 100000 in
set_option maxHeartbeats 4000000 in
theorem bound_Of_Quanta.calls (k : Nat)  (lo1 : Int) (hi2 : Int) {t w : World} {f : FM} {H : List Seg} (HS : St t w f (H)) (r1 : S_Bound) (h : bound_Of_Quanta k lo1 hi2 = some r1) :
    Calls Try.prog 22 #[.int .i64 lo1, .int .i64 hi2] w (fun e w' => ∃ (g : FM), e = .returned (Value.agg #[.int .i64 r1.Lo, .int .i64 r1.Hi, .bool r1.Unknown]) ∧ FM.le f g ∧ St t w' g (H)) := by
  unfold bound_Of_Quanta at h
  refine enter Try.func22 rfl (tm := #[iV lo1, iV hi2, uV, uV, uV, uV, uV, uV, uV]) (by kernel_rfl) ?_
  intro B hret hnor hnp
  refine wp_seq_k (fun K3 hK4 => ?_)
  refine wp_region_lit ?_
  refine seqK rfl (does_alloc (z := Value.agg #[.int .i64 0, .int .i64 0, .bool false]) (cs := #[.int .i64 0, .int .i64 0, .bool false]) rfl (by kernel_rfl) rfl HS ?_)
  intro b5 W6 HS7
  refine wpList_nil ?_
  refine hK4 _ _ ?_
  refine wp_seq_k (fun K9 hK10 => ?_)
  refine wp_region_lit ?_
  have hq_ := bind_some h; clear h; obtain ⟨vt11, hc12, h⟩ := hq_
  refine seqL3 (by kernel_rfl) ?_
  refine seqK rfl (does_call (f := 45) (args := #[.agg #[.int .i64 lo1, .int .i64 hi2, .bool false]]) (by kernel_rfl) (bound_Norm_Quanta.calls k (⟨lo1, hi2, false⟩ : S_Bound) HS7 vt11 hc12) ?_)
  rintro _ W15 ⟨f13, rfl, L14, HS16⟩
  refine ⟨_, rfl, ?_⟩
  refine seqK rfl (does_store (n := 3) (vs := [.int .i64 vt11.Lo, .int .i64 vt11.Hi, .bool vt11.Unknown]) (cs' := #[.int .i64 vt11.Lo, .int .i64 vt11.Hi, .bool vt11.Unknown]) rfl (by kernel_rfl) (by kernel_rfl : _ = Value.pointer (some ⟨b5, 0, none⟩)) (by kernel_rfl : _ = Value.agg #[.int .i64 vt11.Lo, .int .i64 vt11.Hi, .bool vt11.Unknown]) rfl rfl (by intro u_ hu_; simp only [List.mem_cons, List.not_mem_nil, or_false] at hu_; rcases hu_ with rfl | rfl | rfl <;> rfl) HS16 (Nat.le_of_ble_eq_true rfl) (by kernel_rfl) ?_)
  intro W17 HS18
  refine wpList_nil ?_
  refine hK10 _ _ ?_
  refine wp_ret ?_
  refine hret _ _ ?_
  refine ends (v := Value.agg #[.int .i64 vt11.Lo, .int .i64 vt11.Hi, .bool vt11.Unknown]) (results1 (q1 := .cell 4 44) (by kernel_rfl) (resN (n := 3) (cs := [.int .i64 vt11.Lo, .int .i64 vt11.Hi, .bool vt11.Unknown]) (by kernel_rfl : _ = Value.pointer (some ⟨b5, 0, none⟩)) Try.underlying44 rfl (by kernel_rfl) rfl (HS18.cells 0 3 _ rfl))) (by kernel_rfl) ?_
  have HS19 := HS18.drop
  injection h with h
  subst h
  exact ⟨f13, rfl, L14, HS19⟩

set_option maxRecDepth 100000 in
set_option maxHeartbeats 4000000 in
theorem bound_Exact_Quanta.calls (k : Nat)  (v1 : Int) {t w : World} {f : FM} {H : List Seg} (HS : St t w f (H)) (r1 : S_Bound) (h : bound_Exact_Quanta k v1 = some r1) :
    Calls Try.prog 30 #[.int .i64 v1] w (fun e w' => ∃ (g : FM), e = .returned (Value.agg #[.int .i64 r1.Lo, .int .i64 r1.Hi, .bool r1.Unknown]) ∧ FM.le f g ∧ St t w' g (H)) := by
  unfold bound_Exact_Quanta at h
  refine enter Try.func30 rfl (tm := #[iV v1, uV, uV, uV, uV, uV]) (by kernel_rfl) ?_
  intro B hret hnor hnp
  refine wp_seq_k (fun K2 hK3 => ?_)
  refine wp_region_lit ?_
  refine seqK rfl (does_alloc (z := Value.agg #[.int .i64 0, .int .i64 0, .bool false]) (cs := #[.int .i64 0, .int .i64 0, .bool false]) rfl (by kernel_rfl) rfl HS ?_)
  intro b4 W5 HS6
  refine wpList_nil ?_
  refine hK3 _ _ ?_
  refine wp_seq_k (fun K8 hK9 => ?_)
  refine wp_region_lit ?_
  have hq_ := bind_some h; clear h; obtain ⟨vt10, hc11, h⟩ := hq_
  refine seqL2 (by kernel_rfl) ?_
  refine seqK rfl (does_call (f := 22) (args := #[.int .i64 v1, .int .i64 v1]) (by kernel_rfl) (bound_Of_Quanta.calls k v1 v1 HS6 vt10 hc11) ?_)
  rintro _ W14 ⟨f12, rfl, L13, HS15⟩
  refine ⟨_, rfl, ?_⟩
  refine seqK rfl (does_store (n := 3) (vs := [.int .i64 vt10.Lo, .int .i64 vt10.Hi, .bool vt10.Unknown]) (cs' := #[.int .i64 vt10.Lo, .int .i64 vt10.Hi, .bool vt10.Unknown]) rfl (by kernel_rfl) (by kernel_rfl : _ = Value.pointer (some ⟨b4, 0, none⟩)) (by kernel_rfl : _ = Value.agg #[.int .i64 vt10.Lo, .int .i64 vt10.Hi, .bool vt10.Unknown]) rfl rfl (by intro u_ hu_; simp only [List.mem_cons, List.not_mem_nil, or_false] at hu_; rcases hu_ with rfl | rfl | rfl <;> rfl) HS15 (Nat.le_of_ble_eq_true rfl) (by kernel_rfl) ?_)
  intro W16 HS17
  refine wpList_nil ?_
  refine hK9 _ _ ?_
  refine wp_ret ?_
  refine hret _ _ ?_
  refine ends (v := Value.agg #[.int .i64 vt10.Lo, .int .i64 vt10.Hi, .bool vt10.Unknown]) (results1 (q1 := .cell 2 44) (by kernel_rfl) (resN (n := 3) (cs := [.int .i64 vt10.Lo, .int .i64 vt10.Hi, .bool vt10.Unknown]) (by kernel_rfl : _ = Value.pointer (some ⟨b4, 0, none⟩)) Try.underlying44 rfl (by kernel_rfl) rfl (HS17.cells 0 3 _ rfl))) (by kernel_rfl) ?_
  have HS18 := HS17.drop
  injection h with h
  subst h
  exact ⟨f12, rfl, L13, HS18⟩

set_option maxRecDepth 100000 in
set_option maxHeartbeats 4000000 in
theorem slices_Clone_Bound_Quanta.calls (k : Nat) (A2 : Option Addr) (c3 : Nat) (s1 : List S_Bound) {t w : World} {f : FM} {H : List Seg} (HS : St t w f (H)) (HR4 : SlR ty_Bound f A2 c3 s1) (r1 : List S_Bound) (h : slices_Clone_Bound_Quanta k s1 = some r1) :
    Calls Try.prog 37 #[.slice A2 s1.length c3] w (fun e w' => ∃ (g : FM) (A31 : Option Addr) (c32 : Nat) (s33 : Seg), e = .returned (Value.slice A31 r1.length c32) ∧ FM.le f g ∧ St t w' g (s33 :: H) ∧ Own ty_Bound 44 g A31 c32 s33 r1) := by
  unfold slices_Clone_Bound_Quanta at h
  refine enter Try.func37 rfl (tm := #[.slice A2 s1.length c3, uV, uV, uV, uV, uV, uV, uV]) (by kernel_rfl) ?_
  intro B hret hnor hnp
  refine wp_seq_k (fun K5 hK6 => ?_)
  refine wp_region_lit ?_
  refine seqS1 (a' := ⟨#[.slice A2 s1.length c3, uV, .slice none 0 0, uV, uV, uV, uV, uV], []⟩) (by kernel_rfl) ?_
  refine wpList_nil ?_
  refine hK6 _ _ ?_
  refine wp_seq_k (fun K7 hK8 => ?_)
  refine wp_seq_k (fun K9 hK10 => ?_)
  refine wp_region_lit ?_
  refine seqS1 (a' := ⟨#[.slice A2 s1.length c3, uV, .slice none 0 0, .slice A2 s1.length c3, uV, uV, uV, uV], []⟩) (by kernel_rfl) ?_
  obtain _ | ad11 := A2
  · obtain rfl := HR4.nil_eq
    have hq_ := guard_some h; clear h; obtain ⟨_, h⟩ := hq_
    refine seqS1 (a' := ⟨#[.slice none ([] : List S_Bound).length c3, uV, .slice none 0 0, .slice none ([] : List S_Bound).length c3, .bool true, uV, uV, uV], []⟩) (by kernel_rfl) ?_
    refine wpList_nil ?_
    refine hK10 _ _ ?_
    refine condT (by kernel_rfl) ?_
    refine wp_seq_k (fun K27 hK28 => ?_)
    refine wp_region_lit ?_
    refine seqS1 (a' := ⟨#[.slice none ([] : List S_Bound).length c3, uV, .slice none 0 0, .slice none ([] : List S_Bound).length c3, .bool true, uV, uV, uV], []⟩) (by kernel_rfl) ?_
    refine wpList_nil ?_
    refine hK28 _ _ ?_
    refine wp_ret ?_
    refine hret _ _ ?_
    have HS29 := HS.cons_nil
    refine ends_still (v := Value.slice none 0 0) (by kernel_rfl) (by kernel_rfl) ?_
    injection h with h
    subst h
    exact ⟨f, none, 0, [], rfl, FM.le.refl _, HS29, (Own.nil _)⟩
  · refine seqS1 (a' := ⟨#[.slice (some ad11) s1.length c3, uV, .slice none 0 0, .slice (some ad11) s1.length c3, .bool false, uV, uV, uV], []⟩) (by kernel_rfl) ?_
    refine wpList_nil ?_
    refine hK10 _ _ ?_
    refine condF (by kernel_rfl) ?_
    refine wp_skip ?_
    refine hK8 _ _ ?_
    refine wp_seq_k (fun K12 hK13 => ?_)
    refine wp_region_lit ?_
    refine seqK rfl (does_lit (e := ty_Bound) (E := 44) (vs := #[]) (cs := #[]) (xs := ([] : List S_Bound)) rfl Try.underlying32 (by kernel_rfl) (by kernel_rfl) rfl rfl HS ?_ (by decide))
    intro b14 W15 s16 HS17 _ HO18
    have hq_ := guard_some h; clear h; obtain ⟨c20, h⟩ := hq_
    have c20 : (([] : List S_Bound).length + s1.length) * 24 ≤ 140737488355328 := c20
    refine seqL1 (by kernel_rfl) ?_
    refine seqK rfl (does_append (e := ty_Bound) (E := 44) (xs := ([] : List S_Bound)) (ys := s1) rfl (by kernel_rfl : _ = Value.slice (some ⟨b14, 0, none⟩) ([] : List S_Bound).length 0) (by kernel_rfl : _ = Value.slice (some ad11) s1.length c3) Try.underlying32 inf44 HO18 HS17 (HR4.rc HS17) c20 (lim63 c20 (by decide)) ?_)
    intro A21 c22 s23 W24 HS25 HO26
    refine seqS1 (a' := ⟨#[.slice (some ad11) s1.length c3, uV, .slice A21 (([] : List S_Bound) ++ s1).length c22, .slice (some ad11) s1.length c3, .bool false, .slice (some ⟨b14, 0, none⟩) ([] : List S_Bound).length 0, .slice (some ad11) s1.length c3, .slice A21 (([] : List S_Bound) ++ s1).length c22], []⟩) (by kernel_rfl) ?_
    refine wpList_nil ?_
    refine hK13 _ _ ?_
    refine wp_ret ?_
    refine hret _ _ ?_
    refine ends_still (v := Value.slice A21 (([] : List S_Bound) ++ s1).length c22) (by kernel_rfl) (by kernel_rfl) ?_
    injection h with h
    subst h
    exact ⟨f, A21, c22, s23, rfl, FM.le.refl _, HS25, HO26⟩

set_option maxRecDepth 100000 in
set_option maxHeartbeats 4000000 in
theorem spykeep3_around.calls (k : Nat) (b1 : Nat) (A4 : Option Addr) (c5 : Nat) (s3 : S_Stream) (n7 : Int) (vf8 : Int) {t w : World} {f : FM} {H : List Seg} (HS : St t w f ([(b1, .cells #[.slice A4 s3.L.length c5, .int .i64 s3.vat] 25 (0, 0))] :: H)) (HR6 : SlR (tInt .i64) f A4 c5 s3.L) (r1 : List S_Cells) (r2 : List Int) (r3 : Int) (h : spykeep3_around k s3 n7 vf8 = some (r1, r2, r3)) :
    Calls Try.prog 11 #[.pointer (some ⟨b1, 0, none⟩), .int .i64 n7, .int .i64 vf8] w (fun e w' => ∃ (g : FM) (A1267 : Option Addr) (c1268 : Nat) (s1269 : Seg) (A1270 : Option Addr) (c1271 : Nat) (s1272 : Seg), e = .returned (Value.tuple #[.slice A1267 r1.length c1268, .slice A1270 r2.length c1271]) ∧ FM.le f g ∧ St t w' g (s1269 :: s1272 :: [(b1, .cells #[.slice A4 s3.L.length c5, .int .i64 r3] 25 (0, 0))] :: H) ∧ Own ty_Cells 34 g A1267 c1268 s1269 r1 ∧ Own (tInt .i64) 42 g A1270 c1271 s1272 r2) := by
  unfold spykeep3_around at h
  refine enter Try.func11 rfl (tm := #[.pointer (some ⟨b1, 0, none⟩), iV n7, iV vf8, uV, uV, uV, uV, uV, uV, uV, uV, uV, uV, uV, uV, uV, uV, uV, uV, uV, uV, uV, uV, uV, uV, uV, uV, uV, uV, uV, uV, uV, uV, uV, uV, uV, uV, uV, uV, uV, uV, uV, uV, uV, uV, uV, uV, uV, uV, uV, uV, uV, uV, uV, uV, uV, uV, uV, uV, uV, uV, uV, uV, uV, uV, uV, uV, uV, uV, uV, uV, uV, uV, uV, uV, uV, uV, uV, uV, uV, uV, uV, uV, uV, uV, uV, uV, uV, uV, uV, uV, uV, uV, uV]) (by kernel_rfl) ?_
  intro B hret hnor hnp
  refine wp_seq_k (fun K9 hK10 => ?_)
  refine wp_region_lit ?_
  refine seqS2 (a' := ⟨#[.pointer (some ⟨b1, 0, none⟩), iV n7, iV vf8, uV, uV, uV, .slice none 0 0, .slice none 0 0, uV, uV, uV, uV, uV, uV, uV, uV, uV, uV, uV, uV, uV, uV, uV, uV, uV, uV, uV, uV, uV, uV, uV, uV, uV, uV, uV, uV, uV, uV, uV, uV, uV, uV, uV, uV, uV, uV, uV, uV, uV, uV, uV, uV, uV, uV, uV, uV, uV, uV, uV, uV, uV, uV, uV, uV, uV, uV, uV, uV, uV, uV, uV, uV, uV, uV, uV, uV, uV, uV, uV, uV, uV, uV, uV, uV, uV, uV, uV, uV, uV, uV, uV, uV, uV, uV], []⟩) (by kernel_rfl) ?_
  refine wpList_nil ?_
  refine hK10 _ _ ?_
  refine wp_seq_k (fun K11 hK12 => ?_)
  refine wp_region_lit ?_
  have hq_ := bind_some h; clear h; obtain ⟨⟨vt13, vt14⟩, hc15, h⟩ := hq_
  refine seqL1 (by kernel_rfl) ?_
  refine seqK rfl (does_call (f := 25) (args := #[.pointer (some ⟨b1, 0, none⟩), .int .i64 1, .int .i64 4]) (by kernel_rfl) (spymake_Stream_Range.calls k b1 A4 c5 s3 1 4 HS HR6 vt13 vt14 hc15) ?_)
  rintro _ W18 ⟨f16, rfl, L17, HS19⟩
  refine ⟨_, rfl, ?_⟩
  have hq_ := bind_some h; clear h; obtain ⟨⟨vt20, vt21⟩, hc22, h⟩ := hq_
  refine seqL1 (by kernel_rfl) ?_
  refine seqK rfl (does_call (f := 25) (args := #[.pointer (some ⟨b1, 0, none⟩), .int .i64 1, .int .i64 4]) (by kernel_rfl) (spymake_Stream_Range.calls k b1 A4 c5 (⟨s3.L, vt14⟩ : S_Stream) 1 4 HS19 (HR6.mono L17) vt20 vt21 hc22) ?_)
  rintro _ W25 ⟨f23, rfl, L24, HS26⟩
  refine ⟨_, rfl, ?_⟩
  refine seqS2 (a' := ⟨#[.pointer (some ⟨b1, 0, none⟩), iV n7, iV vf8, uV, uV, uV, .slice none 0 0, .slice none 0 0, iV vt13, iV vt20, uV, uV, uV, uV, uV, uV, uV, .pointer (some ⟨b1, 0, none⟩), iV vt13, .pointer (some ⟨b1, 0, none⟩), iV vt20, uV, uV, uV, uV, uV, uV, uV, uV, uV, uV, uV, uV, uV, uV, uV, uV, uV, uV, uV, uV, uV, uV, uV, uV, uV, uV, uV, uV, uV, uV, uV, uV, uV, uV, uV, uV, uV, uV, uV, uV, uV, uV, uV, uV, uV, uV, uV, uV, uV, uV, uV, uV, uV, uV, uV, uV, uV, uV, uV, uV, uV, uV, uV, uV, uV, uV, uV, uV, uV, uV, uV, uV, uV], []⟩) (by kernel_rfl) ?_
  refine wpList_nil ?_
  refine hK12 _ _ ?_
  refine wp_seq_k (fun K27 hK28 => ?_)
  refine wp_region_lit ?_
  refine seqS1 (a' := ⟨#[.pointer (some ⟨b1, 0, none⟩), iV n7, iV vf8, uV, uV, uV, .slice none 0 0, .slice none 0 0, iV vt13, iV vt20, .slice none 0 0, uV, uV, uV, uV, uV, uV, .pointer (some ⟨b1, 0, none⟩), iV vt13, .pointer (some ⟨b1, 0, none⟩), iV vt20, uV, uV, uV, uV, uV, uV, uV, uV, uV, uV, uV, uV, uV, uV, uV, uV, uV, uV, uV, uV, uV, uV, uV, uV, uV, uV, uV, uV, uV, uV, uV, uV, uV, uV, uV, uV, uV, uV, uV, uV, uV, uV, uV, uV, uV, uV, uV, uV, uV, uV, uV, uV, uV, uV, uV, uV, uV, uV, uV, uV, uV, uV, uV, uV, uV, uV, uV, uV, uV, uV, uV, uV, uV], []⟩) (by kernel_rfl) ?_
  refine wpList_nil ?_
  refine hK28 _ _ ?_
  refine wp_seq_k (fun K29 hK30 => ?_)
  refine wp_region_lit ?_
  refine seqL3 (by kernel_rfl) ?_
  refine seqK rfl (does_lit (e := ty_Cells) (E := 34) (vs := #[(0, Value.agg #[.int .i64 vt13, .int .i64 vt20, .slice none 0 0])]) (cs := #[.int .i64 vt13, .int .i64 vt20, .slice none 0 0]) (xs := ([(⟨vt13, vt20, ([] : List S_Bound)⟩ : S_Cells)] : List S_Cells)) rfl Try.underlying27 (by kernel_rfl) (by kernel_rfl) ⟨[.int .i64 vt13, .int .i64 vt20, .slice none 0 0], _, rfl, ⟨none, 0, rfl, (SlR.nil _ _)⟩, rfl⟩ rfl HS26 ?_ (by decide))
  intro b31 W32 s33 HS34 _ HO35
  obtain ⟨f37, L38, HS39, HR40⟩ := HO35.freeze HS34
  have hq_ := bind_some h; clear h; obtain ⟨vt41, hc42, h⟩ := hq_
  refine seqL1 (by kernel_rfl) ?_
  refine seqK rfl (does_call (f := 39) (args := #[.slice (some ⟨b31, 0, none⟩) ([(⟨vt13, vt20, ([] : List S_Bound)⟩ : S_Cells)] : List S_Cells).length 1, .int .i64 n7]) (by kernel_rfl) (slices_Repeat_Cells.calls k (some ⟨b31, 0, none⟩) 1 ([(⟨vt13, vt20, ([] : List S_Bound)⟩ : S_Cells)] : List S_Cells) n7 HS39 HR40 vt41 hc42) ?_)
  rintro _ W45 ⟨f43, A47, c48, s49, rfl, L44, HS46, HO50⟩
  refine ⟨_, rfl, ?_⟩
  refine seqS1 (a' := ⟨#[.pointer (some ⟨b1, 0, none⟩), iV n7, iV vf8, uV, uV, uV, .slice none 0 0, .slice none 0 0, iV vt13, iV vt20, .slice none 0 0, .slice A47 vt41.length c48, uV, uV, uV, uV, uV, .pointer (some ⟨b1, 0, none⟩), iV vt13, .pointer (some ⟨b1, 0, none⟩), iV vt20, iV vt13, iV vt20, .agg #[iV vt13, iV vt20, .slice none 0 0], .slice (some ⟨b31, 0, none⟩) ([(⟨vt13, vt20, ([] : List S_Bound)⟩ : S_Cells)] : List S_Cells).length 1, iV n7, .slice A47 vt41.length c48, uV, uV, uV, uV, uV, uV, uV, uV, uV, uV, uV, uV, uV, uV, uV, uV, uV, uV, uV, uV, uV, uV, uV, uV, uV, uV, uV, uV, uV, uV, uV, uV, uV, uV, uV, uV, uV, uV, uV, uV, uV, uV, uV, uV, uV, uV, uV, uV, uV, uV, uV, uV, uV, uV, uV, uV, uV, uV, uV, uV, uV, uV, uV, uV, uV, uV, uV], []⟩) (by kernel_rfl) ?_
  refine wpList_nil ?_
  refine hK30 _ _ ?_
  refine wp_seq_k (fun K52 hK53 => ?_)
  refine wp_seq_k (fun K54 hK55 => ?_)
  refine wp_region_lit ?_
  refine seqS4 (a' := ⟨#[.pointer (some ⟨b1, 0, none⟩), iV n7, iV vf8, uV, uV, uV, .slice none 0 0, .slice none 0 0, iV vt13, iV vt20, .slice none 0 0, .slice A47 vt41.length c48, uV, uV, uV, uV, uV, .pointer (some ⟨b1, 0, none⟩), iV vt13, .pointer (some ⟨b1, 0, none⟩), iV vt20, iV vt13, iV vt20, .agg #[iV vt13, iV vt20, .slice none 0 0], .slice (some ⟨b31, 0, none⟩) ([(⟨vt13, vt20, ([] : List S_Bound)⟩ : S_Cells)] : List S_Cells).length 1, iV n7, .slice A47 vt41.length c48, iV vt13, iV vt20, iV (w64 (vt13 * vt20)), iV 0, uV, uV, uV, uV, uV, uV, uV, uV, uV, uV, uV, uV, uV, uV, uV, uV, uV, uV, uV, uV, uV, uV, uV, uV, uV, uV, uV, uV, uV, uV, uV, uV, uV, uV, uV, uV, uV, uV, uV, uV, uV, uV, uV, uV, uV, uV, uV, uV, uV, uV, uV, uV, uV, uV, uV, uV, uV, uV, uV, uV, uV, uV, uV], []⟩) (by kernel_rfl) ?_
  refine wpList_nil ?_
  refine hK55 _ _ ?_
  refine blockK (fun B56 hx57 hn58 hr59 ho60 hp61 => ?_)
  have hq_ := bind_some h; clear h; obtain ⟨o648, hv1255, h⟩ := hq_
  have J1256 : ∀ (f1239 : FM) (A1245 : Option Addr) (c1246 : Nat) (s1247 : Seg) (s1251 : Seg) (truth1244 : List Int) (l1250 : List S_Cells) (x1254 : Int) (j1243 : Nat → Value) (W1241 : World) (a_ : Act), FM.le f43 f1239 → some ((truth1244, l1250, x1254)) = some o648 → St t W1241 f1239 (s1247 :: s1251 :: [(b1, .cells #[.slice A4 s3.L.length c5, .int .i64 x1254] 25 (0, 0))] :: H) → Own (tInt .i64) 42 f1239 A1245 c1246 s1247 truth1244 → Own ty_Cells 34 f1239 A47 c48 s1251 l1250 → l1250.length = vt41.length → a_ = ⟨#[.pointer (some ⟨b1, 0, none⟩), iV n7, iV vf8, uV, uV, uV, .slice none 0 0, .slice none 0 0, iV vt13, iV vt20, .slice A1245 truth1244.length c1246, .slice A47 l1250.length c48, (j1243 0), (j1243 1), (j1243 2), (j1243 3), (j1243 4), .pointer (some ⟨b1, 0, none⟩), iV vt13, .pointer (some ⟨b1, 0, none⟩), iV vt20, iV vt13, iV vt20, .agg #[iV vt13, iV vt20, .slice none 0 0], .slice (some ⟨b31, 0, none⟩) ([(⟨vt13, vt20, ([] : List S_Bound)⟩ : S_Cells)] : List S_Cells).length 1, iV n7, (j1243 5), iV vt13, iV vt20, iV (w64 (vt13 * vt20)), (j1243 6), (j1243 7), (j1243 8), (j1243 9), (j1243 10), (j1243 11), (j1243 12), (j1243 13), (j1243 14), (j1243 15), (j1243 16), (j1243 17), (j1243 18), (j1243 19), (j1243 20), (j1243 21), (j1243 22), (j1243 23), (j1243 24), (j1243 25), (j1243 26), (j1243 27), (j1243 28), (j1243 29), (j1243 30), (j1243 31), (j1243 32), (j1243 33), (j1243 34), (j1243 35), (j1243 36), (j1243 37), (j1243 38), (j1243 39), (j1243 40), (j1243 41), (j1243 42), (j1243 43), (j1243 44), (j1243 45), (j1243 46), (j1243 47), (j1243 48), (j1243 49), (j1243 50), (j1243 51), (j1243 52), (j1243 53), (j1243 54), (j1243 55), (j1243 56), (j1243 57), (j1243 58), (j1243 59), (j1243 60), (j1243 61), (j1243 62), (j1243 63), (j1243 64), (j1243 65), (j1243 66), (j1243 67), uV, uV], []⟩ → K52 a_ W1241 := by
    intro f1239 A1245 c1246 s1247 s1251 truth1244 l1250 x1254 j1243 W1241 a_ L1240 hj1257 HS1242 HO1248 HO1252 HL1253 hfr_; subst hfr_
    injection hj1257 with hj1257; subst hj1257; try dsimp only at h
    refine hK53 _ _ ?_
    refine wp_seq_k (fun K1262 hK1263 => ?_)
    refine wp_region_lit ?_
    refine seqS4 (a' := ⟨#[.pointer (some ⟨b1, 0, none⟩), iV n7, iV vf8, uV, uV, uV, .slice A47 l1250.length c48, .slice A1245 truth1244.length c1246, iV vt13, iV vt20, .slice A1245 truth1244.length c1246, .slice A47 l1250.length c48, (j1243 0), (j1243 1), (j1243 2), (j1243 3), (j1243 4), .pointer (some ⟨b1, 0, none⟩), iV vt13, .pointer (some ⟨b1, 0, none⟩), iV vt20, iV vt13, iV vt20, .agg #[iV vt13, iV vt20, .slice none 0 0], .slice (some ⟨b31, 0, none⟩) ([(⟨vt13, vt20, ([] : List S_Bound)⟩ : S_Cells)] : List S_Cells).length 1, iV n7, (j1243 5), iV vt13, iV vt20, iV (w64 (vt13 * vt20)), (j1243 6), (j1243 7), (j1243 8), (j1243 9), (j1243 10), (j1243 11), (j1243 12), (j1243 13), (j1243 14), (j1243 15), (j1243 16), (j1243 17), (j1243 18), (j1243 19), (j1243 20), (j1243 21), (j1243 22), (j1243 23), (j1243 24), (j1243 25), (j1243 26), (j1243 27), (j1243 28), (j1243 29), (j1243 30), (j1243 31), (j1243 32), (j1243 33), (j1243 34), (j1243 35), (j1243 36), (j1243 37), (j1243 38), (j1243 39), (j1243 40), (j1243 41), (j1243 42), (j1243 43), (j1243 44), (j1243 45), (j1243 46), (j1243 47), (j1243 48), (j1243 49), (j1243 50), (j1243 51), (j1243 52), (j1243 53), (j1243 54), (j1243 55), (j1243 56), (j1243 57), (j1243 58), (j1243 59), (j1243 60), (j1243 61), (j1243 62), (j1243 63), (j1243 64), (j1243 65), (j1243 66), (j1243 67), .slice A47 l1250.length c48, .slice A1245 truth1244.length c1246], []⟩) (by kernel_rfl) ?_
    refine wpList_nil ?_
    refine hK1263 _ _ ?_
    refine wp_ret ?_
    refine hret _ _ ?_
    refine ends_still (v := Value.tuple #[.slice A47 l1250.length c48, .slice A1245 truth1244.length c1246]) (by kernel_rfl) (by kernel_rfl) ?_
    have HS1264 := HS1242.u2
    have HS1265 := HS1264.u1
    have HS1266 := HS1265.u2
    injection h with h
    injection h with h0_ h
    injection h with h1_ h
    subst h0_ h1_ h
    exact ⟨f1239, A47, c48, s1251, A1245, c1246, s1247, rfl, (L17.trans (L24.trans (L38.trans (L44.trans L1240)))), HS1266, HO1252, HO1248⟩
  clear h; have h := hv1255; clear hv1255
  have HS1258 := HS46.cons_nil
  refine loopK (fun n_ a_ w_ => ∃ (f652 : FM) (A658 : Option Addr) (c659 : Nat) (s660 : Seg) (s664 : Seg) (truth657 : List Int) (l663 : List S_Cells) (x667 : Int) (x668 : Int) (j656 : Nat → Value), FM.le f43 f652 ∧ St t w_ f652 (s660 :: s664 :: [(b1, .cells #[.slice A4 s3.L.length c5, .int .i64 x668] 25 (0, 0))] :: H) ∧ Own (tInt .i64) 42 f652 A658 c659 s660 truth657 ∧ Own ty_Cells 34 f652 A47 c48 s664 l663 ∧ l663.length = vt41.length ∧ spykeep3_around.l0 k vt13 vt20 s3 vf8 n7 n_ truth657 l663 x667 x668 = some o648 ∧ a_ = ⟨#[.pointer (some ⟨b1, 0, none⟩), iV n7, iV vf8, uV, uV, uV, .slice none 0 0, .slice none 0 0, iV vt13, iV vt20, .slice A658 truth657.length c659, .slice A47 l663.length c48, (j656 0), (j656 1), (j656 2), (j656 3), (j656 4), .pointer (some ⟨b1, 0, none⟩), iV vt13, .pointer (some ⟨b1, 0, none⟩), iV vt20, iV vt13, iV vt20, .agg #[iV vt13, iV vt20, .slice none 0 0], .slice (some ⟨b31, 0, none⟩) ([(⟨vt13, vt20, ([] : List S_Bound)⟩ : S_Cells)] : List S_Cells).length 1, iV n7, .slice A47 vt41.length c48, iV vt13, iV vt20, iV (w64 (vt13 * vt20)), iV x667, (j656 5), (j656 6), (j656 7), (j656 8), (j656 9), (j656 10), (j656 11), (j656 12), (j656 13), (j656 14), (j656 15), (j656 16), (j656 17), (j656 18), (j656 19), (j656 20), (j656 21), (j656 22), (j656 23), (j656 24), (j656 25), (j656 26), (j656 27), (j656 28), (j656 29), (j656 30), (j656 31), (j656 32), (j656 33), (j656 34), (j656 35), (j656 36), (j656 37), (j656 38), (j656 39), (j656 40), (j656 41), (j656 42), (j656 43), (j656 44), (j656 45), (j656 46), (j656 47), (j656 48), (j656 49), (j656 50), (j656 51), (j656 52), (j656 53), (j656 54), (j656 55), (j656 56), (j656 57), (j656 58), (j656 59), (j656 60), (j656 61), (j656 62), (j656 63), (j656 64), (j656 65), uV, uV], []⟩) k ⟨f43, none, 0, [], s49, ([] : List Int), vt41, 0, vt21, (fun i_ => [undef, undef, undef, undef, undef, undef, undef, undef, undef, undef, undef, undef, undef, undef, undef, undef, undef, undef, undef, undef, undef, undef, undef, undef, undef, undef, undef, undef, undef, undef, undef, undef, undef, undef, undef, undef, undef, undef, undef, undef, undef, undef, undef, undef, undef, undef, undef, undef, undef, undef, undef, undef, undef, undef, undef, undef, undef, undef, undef, undef, undef, undef, undef, undef, undef, undef].getD i_ undef), (FM.le.refl _), HS1258, (Own.nil _), HO50, rfl, h, (by kernel_rfl)⟩ ?_
  clear h
  rintro n651 _ W654 ⟨f652, A658, c659, s660, s664, truth657, l663, x667, x668, j656, L653, HS655, HO661, HO665, HL666, h, rfl⟩ K649 hK650
  obtain _ | n651 := n651
  · exact nomatch h
  simp only [spykeep3_around.l0] at h
  refine wp_seq_k (fun K669 hK670 => ?_)
  refine wp_region_lit ?_
  refine seqS1 (a' := ⟨#[.pointer (some ⟨b1, 0, none⟩), iV n7, iV vf8, uV, uV, uV, .slice none 0 0, .slice none 0 0, iV vt13, iV vt20, .slice A658 truth657.length c659, .slice A47 l663.length c48, (j656 0), (j656 1), (j656 2), (j656 3), (j656 4), .pointer (some ⟨b1, 0, none⟩), iV vt13, .pointer (some ⟨b1, 0, none⟩), iV vt20, iV vt13, iV vt20, .agg #[iV vt13, iV vt20, .slice none 0 0], .slice (some ⟨b31, 0, none⟩) ([(⟨vt13, vt20, ([] : List S_Bound)⟩ : S_Cells)] : List S_Cells).length 1, iV n7, .slice A47 vt41.length c48, iV vt13, iV vt20, iV (w64 (vt13 * vt20)), iV x667, .bool (decide (x667 < (w64 (vt13 * vt20)))), (j656 6), (j656 7), (j656 8), (j656 9), (j656 10), (j656 11), (j656 12), (j656 13), (j656 14), (j656 15), (j656 16), (j656 17), (j656 18), (j656 19), (j656 20), (j656 21), (j656 22), (j656 23), (j656 24), (j656 25), (j656 26), (j656 27), (j656 28), (j656 29), (j656 30), (j656 31), (j656 32), (j656 33), (j656 34), (j656 35), (j656 36), (j656 37), (j656 38), (j656 39), (j656 40), (j656 41), (j656 42), (j656 43), (j656 44), (j656 45), (j656 46), (j656 47), (j656 48), (j656 49), (j656 50), (j656 51), (j656 52), (j656 53), (j656 54), (j656 55), (j656 56), (j656 57), (j656 58), (j656 59), (j656 60), (j656 61), (j656 62), (j656 63), (j656 64), (j656 65), uV, uV], []⟩) (by kernel_rfl) ?_
  refine wpList_nil ?_
  refine hK670 _ _ ?_
  refine wp_seq_k (fun K671 hK672 => ?_)
  have hq_ := ite_some h; clear h; rcases hq_ with ⟨c674, h⟩ | ⟨c674, h⟩
  · have c674 : x667 < (w64 (vt13 * vt20)) := c674
    refine wpRwI 31 (x := (decide (x667 < (w64 (vt13 * vt20))))) (v := true) (by kernel_rfl) (decide_eq_true c674) ?_
    refine condT (by kernel_rfl) ?_
    refine wp_skip ?_
    refine hK672 _ _ ?_
    refine wp_seq_k (fun K675 hK676 => ?_)
    refine blockK (fun B677 hx678 hn679 hr680 ho681 hp682 => ?_)
    refine wp_seq_k (fun K684 hK685 => ?_)
    refine wp_region_lit ?_
    have HS686 := HS655.u2
    have hq_ := bind_some h; clear h; obtain ⟨⟨vt687, vt688⟩, hc689, h⟩ := hq_
    refine seqL1 (by kernel_rfl) ?_
    refine seqK rfl (does_call (f := 12) (args := #[.pointer (some ⟨b1, 0, none⟩), .int .i64 1000]) (by kernel_rfl) (spymake_Stream_Next.calls k b1 A4 c5 (⟨s3.L, x668⟩ : S_Stream) 1000 HS686 (HR6.mono (L17.trans (L24.trans (L38.trans (L44.trans L653))))) vt687 vt688 hc689) ?_)
    rintro _ W692 ⟨f690, rfl, L691, HS693⟩
    refine ⟨_, rfl, ?_⟩
    refine seqS1 (a' := ⟨#[.pointer (some ⟨b1, 0, none⟩), iV n7, iV vf8, uV, uV, uV, .slice none 0 0, .slice none 0 0, iV vt13, iV vt20, .slice A658 truth657.length c659, .slice A47 l663.length c48, iV vt687, (j656 1), (j656 2), (j656 3), (j656 4), .pointer (some ⟨b1, 0, none⟩), iV vt13, .pointer (some ⟨b1, 0, none⟩), iV vt20, iV vt13, iV vt20, .agg #[iV vt13, iV vt20, .slice none 0 0], .slice (some ⟨b31, 0, none⟩) ([(⟨vt13, vt20, ([] : List S_Bound)⟩ : S_Cells)] : List S_Cells).length 1, iV n7, .slice A47 vt41.length c48, iV vt13, iV vt20, iV (w64 (vt13 * vt20)), iV x667, .bool true, .pointer (some ⟨b1, 0, none⟩), iV vt687, (j656 8), (j656 9), (j656 10), (j656 11), (j656 12), (j656 13), (j656 14), (j656 15), (j656 16), (j656 17), (j656 18), (j656 19), (j656 20), (j656 21), (j656 22), (j656 23), (j656 24), (j656 25), (j656 26), (j656 27), (j656 28), (j656 29), (j656 30), (j656 31), (j656 32), (j656 33), (j656 34), (j656 35), (j656 36), (j656 37), (j656 38), (j656 39), (j656 40), (j656 41), (j656 42), (j656 43), (j656 44), (j656 45), (j656 46), (j656 47), (j656 48), (j656 49), (j656 50), (j656 51), (j656 52), (j656 53), (j656 54), (j656 55), (j656 56), (j656 57), (j656 58), (j656 59), (j656 60), (j656 61), (j656 62), (j656 63), (j656 64), (j656 65), uV, uV], []⟩) (by kernel_rfl) ?_
    refine wpList_nil ?_
    refine hK685 _ _ ?_
    refine wp_seq_k (fun K694 hK695 => ?_)
    refine wp_region_lit ?_
    refine seqL2 (by kernel_rfl) ?_
    refine seqK rfl (does_lit (e := (tInt .i64)) (E := 42) (vs := #[(0, Value.int .i64 vt687)]) (cs := #[.int .i64 vt687]) (xs := ([vt687] : List Int)) rfl Try.underlying28 (by kernel_rfl) (by kernel_rfl) ⟨[.int .i64 vt687], _, rfl, rfl, rfl⟩ rfl HS693 ?_ (by decide))
    intro b696 W697 s698 HS699 _ HO700
    have hq_ := guard_some h; clear h; obtain ⟨c702, h⟩ := hq_
    have c702 : (truth657.length + 1) * 8 ≤ 140737488355328 := c702
    have HS703 := HS699.u2
    have HS704 := HS703.u1
    refine seqK rfl (does_append1 (e := (tInt .i64)) (E := 42) (xs := truth657) (ys := ([vt687] : List Int)) rfl (by kernel_rfl : _ = Value.slice A658 truth657.length c659) (by kernel_rfl : _ = Value.slice (some ⟨b696, 0, none⟩) ([vt687] : List Int).length 1) Try.underlying28 inf42 (HO661.mono L691) HO700 HS704 c702 (lim63 c702 (by decide)) ?_)
    intro A705 c706 s707 W708 HS709 HO710
    refine seqS1 (a' := ⟨#[.pointer (some ⟨b1, 0, none⟩), iV n7, iV vf8, uV, uV, uV, .slice none 0 0, .slice none 0 0, iV vt13, iV vt20, .slice A705 (truth657 ++ ([vt687] : List Int)).length c706, .slice A47 l663.length c48, iV vt687, (j656 1), (j656 2), (j656 3), (j656 4), .pointer (some ⟨b1, 0, none⟩), iV vt13, .pointer (some ⟨b1, 0, none⟩), iV vt20, iV vt13, iV vt20, .agg #[iV vt13, iV vt20, .slice none 0 0], .slice (some ⟨b31, 0, none⟩) ([(⟨vt13, vt20, ([] : List S_Bound)⟩ : S_Cells)] : List S_Cells).length 1, iV n7, .slice A47 vt41.length c48, iV vt13, iV vt20, iV (w64 (vt13 * vt20)), iV x667, .bool true, .pointer (some ⟨b1, 0, none⟩), iV vt687, .slice A658 truth657.length c659, iV vt687, .slice (some ⟨b696, 0, none⟩) ([vt687] : List Int).length 1, .slice A705 (truth657 ++ ([vt687] : List Int)).length c706, (j656 12), (j656 13), (j656 14), (j656 15), (j656 16), (j656 17), (j656 18), (j656 19), (j656 20), (j656 21), (j656 22), (j656 23), (j656 24), (j656 25), (j656 26), (j656 27), (j656 28), (j656 29), (j656 30), (j656 31), (j656 32), (j656 33), (j656 34), (j656 35), (j656 36), (j656 37), (j656 38), (j656 39), (j656 40), (j656 41), (j656 42), (j656 43), (j656 44), (j656 45), (j656 46), (j656 47), (j656 48), (j656 49), (j656 50), (j656 51), (j656 52), (j656 53), (j656 54), (j656 55), (j656 56), (j656 57), (j656 58), (j656 59), (j656 60), (j656 61), (j656 62), (j656 63), (j656 64), (j656 65), uV, uV], []⟩) (by kernel_rfl) ?_
    refine wpList_nil ?_
    refine hK695 _ _ ?_
    refine wp_seq_k (fun K711 hK712 => ?_)
    refine wp_region_lit ?_
    have HS713 := HS709.u1
    have hq_ := bind_some h; clear h; obtain ⟨⟨vt714, vt715⟩, hc716, h⟩ := hq_
    refine seqL3 (by kernel_rfl) ?_
    refine seqK rfl (does_call (f := 12) (args := #[.pointer (some ⟨b1, 0, none⟩), .int .i64 (w64 (vf8 + 1))]) (by kernel_rfl) (spymake_Stream_Next.calls k b1 A4 c5 (⟨s3.L, vt688⟩ : S_Stream) (w64 (vf8 + 1)) HS713 (HR6.mono (L17.trans (L24.trans (L38.trans (L44.trans (L653.trans L691)))))) vt714 vt715 hc716) ?_)
    rintro _ W719 ⟨f717, rfl, L718, HS720⟩
    refine ⟨_, rfl, ?_⟩
    have hq_ := bind_some h; clear h; obtain ⟨⟨vt721, vt722⟩, hc723, h⟩ := hq_
    refine seqL2 (by kernel_rfl) ?_
    refine seqK rfl (does_call (f := 12) (args := #[.pointer (some ⟨b1, 0, none⟩), .int .i64 n7]) (by kernel_rfl) (spymake_Stream_Next.calls k b1 A4 c5 (⟨s3.L, vt715⟩ : S_Stream) n7 HS720 (HR6.mono (L17.trans (L24.trans (L38.trans (L44.trans (L653.trans (L691.trans L718))))))) vt721 vt722 hc723) ?_)
    rintro _ W726 ⟨f724, rfl, L725, HS727⟩
    refine ⟨_, rfl, ?_⟩
    refine seqS2 (a' := ⟨#[.pointer (some ⟨b1, 0, none⟩), iV n7, iV vf8, uV, uV, uV, .slice none 0 0, .slice none 0 0, iV vt13, iV vt20, .slice A705 (truth657 ++ ([vt687] : List Int)).length c706, .slice A47 l663.length c48, iV vt687, iV vt714, iV vt721, (j656 3), (j656 4), .pointer (some ⟨b1, 0, none⟩), iV vt13, .pointer (some ⟨b1, 0, none⟩), iV vt20, iV vt13, iV vt20, .agg #[iV vt13, iV vt20, .slice none 0 0], .slice (some ⟨b31, 0, none⟩) ([(⟨vt13, vt20, ([] : List S_Bound)⟩ : S_Cells)] : List S_Cells).length 1, iV n7, .slice A47 vt41.length c48, iV vt13, iV vt20, iV (w64 (vt13 * vt20)), iV x667, .bool true, .pointer (some ⟨b1, 0, none⟩), iV vt687, .slice A658 truth657.length c659, iV vt687, .slice (some ⟨b696, 0, none⟩) ([vt687] : List Int).length 1, .slice A705 (truth657 ++ ([vt687] : List Int)).length c706, .pointer (some ⟨b1, 0, none⟩), iV vf8, iV (w64 (vf8 + 1)), iV vt714, .pointer (some ⟨b1, 0, none⟩), iV n7, iV vt721, (j656 19), (j656 20), (j656 21), (j656 22), (j656 23), (j656 24), (j656 25), (j656 26), (j656 27), (j656 28), (j656 29), (j656 30), (j656 31), (j656 32), (j656 33), (j656 34), (j656 35), (j656 36), (j656 37), (j656 38), (j656 39), (j656 40), (j656 41), (j656 42), (j656 43), (j656 44), (j656 45), (j656 46), (j656 47), (j656 48), (j656 49), (j656 50), (j656 51), (j656 52), (j656 53), (j656 54), (j656 55), (j656 56), (j656 57), (j656 58), (j656 59), (j656 60), (j656 61), (j656 62), (j656 63), (j656 64), (j656 65), uV, uV], []⟩) (by kernel_rfl) ?_
    refine wpList_nil ?_
    refine hK712 _ _ ?_
    refine wp_seq_k (fun K728 hK729 => ?_)
    refine wp_region_lit ?_
    refine seqS3 (a' := ⟨#[.pointer (some ⟨b1, 0, none⟩), iV n7, iV vf8, uV, uV, uV, .slice none 0 0, .slice none 0 0, iV vt13, iV vt20, .slice A705 (truth657 ++ ([vt687] : List Int)).length c706, .slice A47 l663.length c48, iV vt687, iV vt714, iV vt721, (j656 3), (j656 4), .pointer (some ⟨b1, 0, none⟩), iV vt13, .pointer (some ⟨b1, 0, none⟩), iV vt20, iV vt13, iV vt20, .agg #[iV vt13, iV vt20, .slice none 0 0], .slice (some ⟨b31, 0, none⟩) ([(⟨vt13, vt20, ([] : List S_Bound)⟩ : S_Cells)] : List S_Cells).length 1, iV n7, .slice A47 vt41.length c48, iV vt13, iV vt20, iV (w64 (vt13 * vt20)), iV x667, .bool true, .pointer (some ⟨b1, 0, none⟩), iV vt687, .slice A658 truth657.length c659, iV vt687, .slice (some ⟨b696, 0, none⟩) ([vt687] : List Int).length 1, .slice A705 (truth657 ++ ([vt687] : List Int)).length c706, .pointer (some ⟨b1, 0, none⟩), iV vf8, iV (w64 (vf8 + 1)), iV vt714, .pointer (some ⟨b1, 0, none⟩), iV n7, iV vt721, .slice A47 l663.length c48, iV (l663.length : Int), iV 0, (j656 22), (j656 23), (j656 24), (j656 25), (j656 26), (j656 27), (j656 28), (j656 29), (j656 30), (j656 31), (j656 32), (j656 33), (j656 34), (j656 35), (j656 36), (j656 37), (j656 38), (j656 39), (j656 40), (j656 41), (j656 42), (j656 43), (j656 44), (j656 45), (j656 46), (j656 47), (j656 48), (j656 49), (j656 50), (j656 51), (j656 52), (j656 53), (j656 54), (j656 55), (j656 56), (j656 57), (j656 58), (j656 59), (j656 60), (j656 61), (j656 62), (j656 63), (j656 64), (j656 65), uV, uV], []⟩) (by kernel_rfl) ?_
    refine wpList_nil ?_
    refine hK729 _ _ ?_
    refine blockK (fun B730 hx731 hn732 hr733 ho734 hp735 => ?_)
    have hq_ := bind_some h; clear h; obtain ⟨o976, hv1232, h⟩ := hq_
    have J1233 : ∀ (f1222 : FM) (s1228 : Seg) (l1227 : List S_Cells) (x1231 : Int) (j1226 : Nat → Value) (W1224 : World) (a_ : Act), FM.le f724 f1222 → some ((l1227, x1231)) = some o976 → St t W1224 f1222 ([(b1, .cells #[.slice A4 s3.L.length c5, .int .i64 x1231] 25 (0, 0))] :: s707 :: s1228 :: H) → Own ty_Cells 34 f1222 A47 c48 s1228 l1227 → l1227.length = l663.length → a_ = ⟨#[.pointer (some ⟨b1, 0, none⟩), iV n7, iV vf8, uV, uV, uV, .slice none 0 0, .slice none 0 0, iV vt13, iV vt20, .slice A705 (truth657 ++ ([vt687] : List Int)).length c706, .slice A47 l1227.length c48, iV vt687, iV vt714, iV vt721, (j1226 0), (j1226 1), .pointer (some ⟨b1, 0, none⟩), iV vt13, .pointer (some ⟨b1, 0, none⟩), iV vt20, iV vt13, iV vt20, .agg #[iV vt13, iV vt20, .slice none 0 0], .slice (some ⟨b31, 0, none⟩) ([(⟨vt13, vt20, ([] : List S_Bound)⟩ : S_Cells)] : List S_Cells).length 1, iV n7, .slice A47 vt41.length c48, iV vt13, iV vt20, iV (w64 (vt13 * vt20)), iV x667, .bool true, .pointer (some ⟨b1, 0, none⟩), iV vt687, .slice A658 truth657.length c659, iV vt687, .slice (some ⟨b696, 0, none⟩) ([vt687] : List Int).length 1, .slice A705 (truth657 ++ ([vt687] : List Int)).length c706, .pointer (some ⟨b1, 0, none⟩), iV vf8, iV (w64 (vf8 + 1)), iV vt714, .pointer (some ⟨b1, 0, none⟩), iV n7, iV vt721, (j1226 2), iV (l663.length : Int), (j1226 3), (j1226 4), (j1226 5), (j1226 6), (j1226 7), (j1226 8), (j1226 9), (j1226 10), (j1226 11), (j1226 12), (j1226 13), (j1226 14), (j1226 15), (j1226 16), (j1226 17), (j1226 18), (j1226 19), (j1226 20), (j1226 21), (j1226 22), (j1226 23), (j1226 24), (j1226 25), (j1226 26), (j1226 27), (j1226 28), (j1226 29), (j1226 30), (j1226 31), (j1226 32), (j1226 33), (j1226 34), (j1226 35), (j1226 36), (j1226 37), (j1226 38), (j1226 39), (j1226 40), (j1226 41), (j1226 42), (j1226 43), (j1226 44), (j1226 45), (j1226 46), (j656 65), uV, uV], []⟩ → B677 Exit.normal a_ W1224 := by
      intro f1222 s1228 l1227 x1231 j1226 W1224 a_ L1223 hj1234 HS1225 HO1229 HL1230 hfr_; subst hfr_
      injection hj1234 with hj1234; subst hj1234; try dsimp only at h
      refine hn679 _ _ ?_
      refine hK676 _ _ ?_
      refine wp_region_lit ?_
      refine seqS2 (a' := ⟨#[.pointer (some ⟨b1, 0, none⟩), iV n7, iV vf8, uV, uV, uV, .slice none 0 0, .slice none 0 0, iV vt13, iV vt20, .slice A705 (truth657 ++ ([vt687] : List Int)).length c706, .slice A47 l1227.length c48, iV vt687, iV vt714, iV vt721, (j1226 0), (j1226 1), .pointer (some ⟨b1, 0, none⟩), iV vt13, .pointer (some ⟨b1, 0, none⟩), iV vt20, iV vt13, iV vt20, .agg #[iV vt13, iV vt20, .slice none 0 0], .slice (some ⟨b31, 0, none⟩) ([(⟨vt13, vt20, ([] : List S_Bound)⟩ : S_Cells)] : List S_Cells).length 1, iV n7, .slice A47 vt41.length c48, iV vt13, iV vt20, iV (w64 (vt13 * vt20)), iV (w64 (x667 + 1)), .bool true, .pointer (some ⟨b1, 0, none⟩), iV vt687, .slice A658 truth657.length c659, iV vt687, .slice (some ⟨b696, 0, none⟩) ([vt687] : List Int).length 1, .slice A705 (truth657 ++ ([vt687] : List Int)).length c706, .pointer (some ⟨b1, 0, none⟩), iV vf8, iV (w64 (vf8 + 1)), iV vt714, .pointer (some ⟨b1, 0, none⟩), iV n7, iV vt721, (j1226 2), iV (l663.length : Int), (j1226 3), (j1226 4), (j1226 5), (j1226 6), (j1226 7), (j1226 8), (j1226 9), (j1226 10), (j1226 11), (j1226 12), (j1226 13), (j1226 14), (j1226 15), (j1226 16), (j1226 17), (j1226 18), (j1226 19), (j1226 20), (j1226 21), (j1226 22), (j1226 23), (j1226 24), (j1226 25), (j1226 26), (j1226 27), (j1226 28), (j1226 29), (j1226 30), (j1226 31), (j1226 32), (j1226 33), (j1226 34), (j1226 35), (j1226 36), (j1226 37), (j1226 38), (j1226 39), (j1226 40), (j1226 41), (j1226 42), (j1226 43), (j1226 44), (j1226 45), (j1226 46), iV (w64 (x667 + 1)), uV, uV], []⟩) (by kernel_rfl) ?_
      refine wpList_nil ?_
      refine hK650 n651 _ _ (Nat.lt_succ_self _) ?_
      have HS1260 := HS1225.u2
      have HS1261 := HS1260.u2
      exact ⟨f1222, A705, c706, s707, s1228, (truth657 ++ ([vt687] : List Int)), l1227, (w64 (x667 + 1)), x1231, (fun i_ => [Value.int .i64 vt687, Value.int .i64 vt714, Value.int .i64 vt721, (j1226 0), (j1226 1), Value.bool true, Value.pointer (some ⟨b1, 0, none⟩), Value.int .i64 vt687, Value.slice A658 truth657.length c659, Value.int .i64 vt687, Value.slice (some ⟨b696, 0, none⟩) ([vt687] : List Int).length 1, Value.slice A705 (truth657 ++ ([vt687] : List Int)).length c706, Value.pointer (some ⟨b1, 0, none⟩), Value.int .i64 vf8, Value.int .i64 (w64 (vf8 + 1)), Value.int .i64 vt714, Value.pointer (some ⟨b1, 0, none⟩), Value.int .i64 n7, Value.int .i64 vt721, (j1226 2), Value.int .i64 (l663.length : Int), (j1226 3), (j1226 4), (j1226 5), (j1226 6), (j1226 7), (j1226 8), (j1226 9), (j1226 10), (j1226 11), (j1226 12), (j1226 13), (j1226 14), (j1226 15), (j1226 16), (j1226 17), (j1226 18), (j1226 19), (j1226 20), (j1226 21), (j1226 22), (j1226 23), (j1226 24), (j1226 25), (j1226 26), (j1226 27), (j1226 28), (j1226 29), (j1226 30), (j1226 31), (j1226 32), (j1226 33), (j1226 34), (j1226 35), (j1226 36), (j1226 37), (j1226 38), (j1226 39), (j1226 40), (j1226 41), (j1226 42), (j1226 43), (j1226 44), (j1226 45), (j1226 46), Value.int .i64 (w64 (x667 + 1))].getD i_ undef), (L653.trans (L691.trans (L718.trans (L725.trans L1223)))), HS1261, (HO710.mono (L718.trans (L725.trans L1223))), HO1229, (HL1230.trans HL666), h, (by kernel_rfl)⟩
    clear h; have h := hv1232; clear hv1232
    refine loopK (fun n_ a_ w_ => ∃ (f980 : FM) (s986 : Seg) (l985 : List S_Cells) (x989 : Int) (x990 : Int) (j984 : Nat → Value), FM.le f724 f980 ∧ St t w_ f980 ([(b1, .cells #[.slice A4 s3.L.length c5, .int .i64 x990] 25 (0, 0))] :: s707 :: s986 :: H) ∧ Own ty_Cells 34 f980 A47 c48 s986 l985 ∧ l985.length = l663.length ∧ spykeep3_around.l1 k l663 s3 n7 vt721 vt714 vt687 n_ l985 x989 x990 = some o976 ∧ a_ = ⟨#[.pointer (some ⟨b1, 0, none⟩), iV n7, iV vf8, uV, uV, uV, .slice none 0 0, .slice none 0 0, iV vt13, iV vt20, .slice A705 (truth657 ++ ([vt687] : List Int)).length c706, .slice A47 l985.length c48, iV vt687, iV vt714, iV vt721, (j984 0), (j984 1), .pointer (some ⟨b1, 0, none⟩), iV vt13, .pointer (some ⟨b1, 0, none⟩), iV vt20, iV vt13, iV vt20, .agg #[iV vt13, iV vt20, .slice none 0 0], .slice (some ⟨b31, 0, none⟩) ([(⟨vt13, vt20, ([] : List S_Bound)⟩ : S_Cells)] : List S_Cells).length 1, iV n7, .slice A47 vt41.length c48, iV vt13, iV vt20, iV (w64 (vt13 * vt20)), iV x667, .bool true, .pointer (some ⟨b1, 0, none⟩), iV vt687, .slice A658 truth657.length c659, iV vt687, .slice (some ⟨b696, 0, none⟩) ([vt687] : List Int).length 1, .slice A705 (truth657 ++ ([vt687] : List Int)).length c706, .pointer (some ⟨b1, 0, none⟩), iV vf8, iV (w64 (vf8 + 1)), iV vt714, .pointer (some ⟨b1, 0, none⟩), iV n7, iV vt721, .slice A47 l663.length c48, iV (l663.length : Int), iV x989, (j984 2), (j984 3), (j984 4), (j984 5), (j984 6), (j984 7), (j984 8), (j984 9), (j984 10), (j984 11), (j984 12), (j984 13), (j984 14), (j984 15), (j984 16), (j984 17), (j984 18), (j984 19), (j984 20), (j984 21), (j984 22), (j984 23), (j984 24), (j984 25), (j984 26), (j984 27), (j984 28), (j984 29), (j984 30), (j984 31), (j984 32), (j984 33), (j984 34), (j984 35), (j984 36), (j984 37), (j984 38), (j984 39), (j984 40), (j984 41), (j984 42), (j984 43), (j984 44), (j656 65), uV, uV], []⟩) k ⟨f724, s664, l663, 0, vt722, (fun i_ => [(j656 3), (j656 4), (j656 22), (j656 23), (j656 24), (j656 25), (j656 26), (j656 27), (j656 28), (j656 29), (j656 30), (j656 31), (j656 32), (j656 33), (j656 34), (j656 35), (j656 36), (j656 37), (j656 38), (j656 39), (j656 40), (j656 41), (j656 42), (j656 43), (j656 44), (j656 45), (j656 46), (j656 47), (j656 48), (j656 49), (j656 50), (j656 51), (j656 52), (j656 53), (j656 54), (j656 55), (j656 56), (j656 57), (j656 58), (j656 59), (j656 60), (j656 61), (j656 62), (j656 63), (j656 64)].getD i_ undef), (FM.le.refl _), HS727, (HO665.mono (L691.trans (L718.trans L725))), rfl, h, (by kernel_rfl)⟩ ?_
    clear h
    rintro n979 _ W982 ⟨f980, s986, l985, x989, x990, j984, L981, HS983, HO987, HL988, h, rfl⟩ K977 hK978
    obtain _ | n979 := n979
    · exact nomatch h
    simp only [spykeep3_around.l1] at h
    refine wp_seq_k (fun K991 hK992 => ?_)
    refine wp_region_lit ?_
    refine seqS1 (a' := ⟨#[.pointer (some ⟨b1, 0, none⟩), iV n7, iV vf8, uV, uV, uV, .slice none 0 0, .slice none 0 0, iV vt13, iV vt20, .slice A705 (truth657 ++ ([vt687] : List Int)).length c706, .slice A47 l985.length c48, iV vt687, iV vt714, iV vt721, (j984 0), (j984 1), .pointer (some ⟨b1, 0, none⟩), iV vt13, .pointer (some ⟨b1, 0, none⟩), iV vt20, iV vt13, iV vt20, .agg #[iV vt13, iV vt20, .slice none 0 0], .slice (some ⟨b31, 0, none⟩) ([(⟨vt13, vt20, ([] : List S_Bound)⟩ : S_Cells)] : List S_Cells).length 1, iV n7, .slice A47 vt41.length c48, iV vt13, iV vt20, iV (w64 (vt13 * vt20)), iV x667, .bool true, .pointer (some ⟨b1, 0, none⟩), iV vt687, .slice A658 truth657.length c659, iV vt687, .slice (some ⟨b696, 0, none⟩) ([vt687] : List Int).length 1, .slice A705 (truth657 ++ ([vt687] : List Int)).length c706, .pointer (some ⟨b1, 0, none⟩), iV vf8, iV (w64 (vf8 + 1)), iV vt714, .pointer (some ⟨b1, 0, none⟩), iV n7, iV vt721, .slice A47 l663.length c48, iV (l663.length : Int), iV x989, .bool (decide (x989 < (l663.length : Int))), (j984 3), (j984 4), (j984 5), (j984 6), (j984 7), (j984 8), (j984 9), (j984 10), (j984 11), (j984 12), (j984 13), (j984 14), (j984 15), (j984 16), (j984 17), (j984 18), (j984 19), (j984 20), (j984 21), (j984 22), (j984 23), (j984 24), (j984 25), (j984 26), (j984 27), (j984 28), (j984 29), (j984 30), (j984 31), (j984 32), (j984 33), (j984 34), (j984 35), (j984 36), (j984 37), (j984 38), (j984 39), (j984 40), (j984 41), (j984 42), (j984 43), (j984 44), (j656 65), uV, uV], []⟩) (by kernel_rfl) ?_
    refine wpList_nil ?_
    refine hK992 _ _ ?_
    refine wp_seq_k (fun K993 hK994 => ?_)
    have hq_ := ite_some h; clear h; rcases hq_ with ⟨c996, h⟩ | ⟨c996, h⟩
    · have c996 : x989 < (l663.length : Int) := c996
      refine wpRwI 48 (x := (decide (x989 < (l663.length : Int)))) (v := true) (by kernel_rfl) (decide_eq_true c996) ?_
      refine condT (by kernel_rfl) ?_
      refine wp_skip ?_
      refine hK994 _ _ ?_
      refine wp_seq_k (fun K997 hK998 => ?_)
      refine blockK (fun B999 hx1000 hn1001 hr1002 ho1003 hp1004 => ?_)
      refine wp_seq_k (fun K1006 hK1007 => ?_)
      refine wp_region_lit ?_
      refine seqS2 (a' := ⟨#[.pointer (some ⟨b1, 0, none⟩), iV n7, iV vf8, uV, uV, uV, .slice none 0 0, .slice none 0 0, iV vt13, iV vt20, .slice A705 (truth657 ++ ([vt687] : List Int)).length c706, .slice A47 l985.length c48, iV vt687, iV vt714, iV vt721, iV x989, (j984 1), .pointer (some ⟨b1, 0, none⟩), iV vt13, .pointer (some ⟨b1, 0, none⟩), iV vt20, iV vt13, iV vt20, .agg #[iV vt13, iV vt20, .slice none 0 0], .slice (some ⟨b31, 0, none⟩) ([(⟨vt13, vt20, ([] : List S_Bound)⟩ : S_Cells)] : List S_Cells).length 1, iV n7, .slice A47 vt41.length c48, iV vt13, iV vt20, iV (w64 (vt13 * vt20)), iV x667, .bool true, .pointer (some ⟨b1, 0, none⟩), iV vt687, .slice A658 truth657.length c659, iV vt687, .slice (some ⟨b696, 0, none⟩) ([vt687] : List Int).length 1, .slice A705 (truth657 ++ ([vt687] : List Int)).length c706, .pointer (some ⟨b1, 0, none⟩), iV vf8, iV (w64 (vf8 + 1)), iV vt714, .pointer (some ⟨b1, 0, none⟩), iV n7, iV vt721, .slice A47 l663.length c48, iV (l663.length : Int), iV x989, .bool true, iV x989, (j984 4), (j984 5), (j984 6), (j984 7), (j984 8), (j984 9), (j984 10), (j984 11), (j984 12), (j984 13), (j984 14), (j984 15), (j984 16), (j984 17), (j984 18), (j984 19), (j984 20), (j984 21), (j984 22), (j984 23), (j984 24), (j984 25), (j984 26), (j984 27), (j984 28), (j984 29), (j984 30), (j984 31), (j984 32), (j984 33), (j984 34), (j984 35), (j984 36), (j984 37), (j984 38), (j984 39), (j984 40), (j984 41), (j984 42), (j984 43), (j984 44), (j656 65), uV, uV], []⟩) (by kernel_rfl) ?_
      refine wpList_nil ?_
      refine hK1007 _ _ ?_
      refine wp_seq_k (fun K1008 hK1009 => ?_)
      refine wp_region_lit ?_
      have hq_ := bind_some h; clear h; obtain ⟨⟨vt1010, vt1011⟩, hc1012, h⟩ := hq_
      refine seqL2 (by kernel_rfl) ?_
      refine seqK rfl (does_call (f := 12) (args := #[.pointer (some ⟨b1, 0, none⟩), .int .i64 20]) (by kernel_rfl) (spymake_Stream_Next.calls k b1 A4 c5 (⟨s3.L, x990⟩ : S_Stream) 20 HS983 (HR6.mono (L17.trans (L24.trans (L38.trans (L44.trans (L653.trans (L691.trans (L718.trans (L725.trans L981))))))))) vt1010 vt1011 hc1012) ?_)
      rintro _ W1015 ⟨f1013, rfl, L1014, HS1016⟩
      refine ⟨_, rfl, ?_⟩
      have hq_ := bind_some h; clear h; obtain ⟨⟨vt1017, vt1018⟩, hc1019, h⟩ := hq_
      refine seqL3 (by kernel_rfl) ?_
      refine seqK rfl (does_call (f := 12) (args := #[.pointer (some ⟨b1, 0, none⟩), .int .i64 20]) (by kernel_rfl) (spymake_Stream_Next.calls k b1 A4 c5 (⟨s3.L, vt1011⟩ : S_Stream) 20 HS1016 (HR6.mono (L17.trans (L24.trans (L38.trans (L44.trans (L653.trans (L691.trans (L718.trans (L725.trans (L981.trans L1014)))))))))) vt1017 vt1018 hc1019) ?_)
      rintro _ W1022 ⟨f1020, rfl, L1021, HS1023⟩
      refine ⟨_, rfl, ?_⟩
      refine seqL2 (by kernel_rfl) ?_
      refine seqK rfl (does_alloc (z := Value.agg #[.int .i64 0, .int .i64 0, .bool false]) (cs := #[.int .i64 0, .int .i64 0, .bool false]) rfl (by kernel_rfl) rfl HS1023 ?_)
      intro b1024 W1025 HS1026
      refine seqK rfl (does_store (n := 3) (vs := [.int .i64 (w64 (vt687 - vt1010)), .int .i64 (w64 (vt687 + vt1017)), .bool false]) (cs' := #[.int .i64 (w64 (vt687 - vt1010)), .int .i64 (w64 (vt687 + vt1017)), .bool false]) rfl (by kernel_rfl) (by kernel_rfl : _ = Value.pointer (some ⟨b1024, 0, none⟩)) (by kernel_rfl : _ = Value.agg #[.int .i64 (w64 (vt687 - vt1010)), .int .i64 (w64 (vt687 + vt1017)), .bool false]) rfl rfl (by intro u_ hu_; simp only [List.mem_cons, List.not_mem_nil, or_false] at hu_; rcases hu_ with rfl | rfl | rfl <;> rfl) HS1026 (Nat.le_of_ble_eq_true rfl) (by kernel_rfl) ?_)
      intro W1028 HS1029
      refine wpList_nil ?_
      refine hK1009 _ _ ?_
      refine wp_seq_k (fun K1030 hK1031 => ?_)
      refine wp_seq_k (fun K1032 hK1033 => ?_)
      refine wp_region_lit ?_
      have hq_ := guard_some h; clear h; obtain ⟨c1034, h⟩ := hq_
      have c1034 : ¬ (n7 = 0) := c1034
      refine seqL6 (by kernel_rfl) ?_
      refine seqK rfl (does_run (run_rem rfl (by kernel_rfl : _ = Value.int .i64 (w64 ((w64 (x989 - vt721)) + n7))) (by kernel_rfl : _ = Value.int .i64 n7) c1034 W1028) ?_)
      refine seqS2 (a' := ⟨#[.pointer (some ⟨b1, 0, none⟩), iV n7, iV vf8, uV, uV, uV, .slice none 0 0, .slice none 0 0, iV vt13, iV vt20, .slice A705 (truth657 ++ ([vt687] : List Int)).length c706, .slice A47 l985.length c48, iV vt687, iV vt714, iV vt721, iV x989, .pointer (some ⟨b1024, 0, none⟩), .pointer (some ⟨b1, 0, none⟩), iV vt13, .pointer (some ⟨b1, 0, none⟩), iV vt20, iV vt13, iV vt20, .agg #[iV vt13, iV vt20, .slice none 0 0], .slice (some ⟨b31, 0, none⟩) ([(⟨vt13, vt20, ([] : List S_Bound)⟩ : S_Cells)] : List S_Cells).length 1, iV n7, .slice A47 vt41.length c48, iV vt13, iV vt20, iV (w64 (vt13 * vt20)), iV x667, .bool true, .pointer (some ⟨b1, 0, none⟩), iV vt687, .slice A658 truth657.length c659, iV vt687, .slice (some ⟨b696, 0, none⟩) ([vt687] : List Int).length 1, .slice A705 (truth657 ++ ([vt687] : List Int)).length c706, .pointer (some ⟨b1, 0, none⟩), iV vf8, iV (w64 (vf8 + 1)), iV vt714, .pointer (some ⟨b1, 0, none⟩), iV n7, iV vt721, .slice A47 l663.length c48, iV (l663.length : Int), iV x989, .bool true, iV x989, iV vt687, .pointer (some ⟨b1, 0, none⟩), iV vt1010, iV (w64 (vt687 - vt1010)), iV vt687, .pointer (some ⟨b1, 0, none⟩), iV vt1017, iV (w64 (vt687 + vt1017)), .agg #[iV (w64 (vt687 - vt1010)), iV (w64 (vt687 + vt1017)), .bool false], iV x989, iV vt721, iV (w64 (x989 - vt721)), iV n7, iV (w64 ((w64 (x989 - vt721)) + n7)), iV n7, iV (Int.tmod (w64 ((w64 (x989 - vt721)) + n7)) n7), iV vt714, .bool (decide ((Int.tmod (w64 ((w64 (x989 - vt721)) + n7)) n7) < vt714)), (j984 22), (j984 23), (j984 24), (j984 25), (j984 26), (j984 27), (j984 28), (j984 29), (j984 30), (j984 31), (j984 32), (j984 33), (j984 34), (j984 35), (j984 36), (j984 37), (j984 38), (j984 39), (j984 40), (j984 41), (j984 42), (j984 43), (j984 44), (j656 65), uV, uV], []⟩) (by kernel_rfl) ?_
      refine wpList_nil ?_
      refine hK1033 _ _ ?_
      have hq_ := bind_some h; clear h; obtain ⟨v1035, hv1084, h⟩ := hq_
      have J1085 : ∀ (f1075 : FM) (x1080 : Int) (x1081 : Int) (x1082 : Bool) (x1083 : Int) (j1079 : Nat → Value) (W1077 : World) (a_ : Act), FM.le f1020 f1075 → some ((x1080, x1081, x1082, x1083)) = some v1035 → St t W1077 f1075 ([(b1024, .cells #[.int .i64 x1080, .int .i64 x1081, .bool x1082] 44 (0, 0))] :: [(b1, .cells #[.slice A4 s3.L.length c5, .int .i64 x1083] 25 (0, 0))] :: s707 :: s986 :: H) → a_ = ⟨#[.pointer (some ⟨b1, 0, none⟩), iV n7, iV vf8, uV, uV, uV, .slice none 0 0, .slice none 0 0, iV vt13, iV vt20, .slice A705 (truth657 ++ ([vt687] : List Int)).length c706, .slice A47 l985.length c48, iV vt687, iV vt714, iV vt721, iV x989, .pointer (some ⟨b1024, 0, none⟩), .pointer (some ⟨b1, 0, none⟩), iV vt13, .pointer (some ⟨b1, 0, none⟩), iV vt20, iV vt13, iV vt20, .agg #[iV vt13, iV vt20, .slice none 0 0], .slice (some ⟨b31, 0, none⟩) ([(⟨vt13, vt20, ([] : List S_Bound)⟩ : S_Cells)] : List S_Cells).length 1, iV n7, .slice A47 vt41.length c48, iV vt13, iV vt20, iV (w64 (vt13 * vt20)), iV x667, .bool true, .pointer (some ⟨b1, 0, none⟩), iV vt687, .slice A658 truth657.length c659, iV vt687, .slice (some ⟨b696, 0, none⟩) ([vt687] : List Int).length 1, .slice A705 (truth657 ++ ([vt687] : List Int)).length c706, .pointer (some ⟨b1, 0, none⟩), iV vf8, iV (w64 (vf8 + 1)), iV vt714, .pointer (some ⟨b1, 0, none⟩), iV n7, iV vt721, .slice A47 l663.length c48, iV (l663.length : Int), iV x989, .bool true, iV x989, iV vt687, .pointer (some ⟨b1, 0, none⟩), iV vt1010, iV (w64 (vt687 - vt1010)), iV vt687, .pointer (some ⟨b1, 0, none⟩), iV vt1017, iV (w64 (vt687 + vt1017)), .agg #[iV (w64 (vt687 - vt1010)), iV (w64 (vt687 + vt1017)), .bool false], iV x989, iV vt721, iV (w64 (x989 - vt721)), iV n7, iV (w64 ((w64 (x989 - vt721)) + n7)), iV n7, iV (Int.tmod (w64 ((w64 (x989 - vt721)) + n7)) n7), iV vt714, (j1079 0), (j1079 1), (j1079 2), (j1079 3), (j1079 4), (j1079 5), (j1079 6), (j1079 7), (j1079 8), (j1079 9), (j984 31), (j984 32), (j984 33), (j984 34), (j984 35), (j984 36), (j984 37), (j984 38), (j984 39), (j984 40), (j984 41), (j984 42), (j984 43), (j984 44), (j656 65), uV, uV], []⟩ → K1030 a_ W1077 := by
        intro f1075 x1080 x1081 x1082 x1083 j1079 W1077 a_ L1076 hj1086 HS1078  hfr_; subst hfr_
        injection hj1086 with hj1086; subst hj1086; try dsimp only at h
        refine hK1031 _ _ ?_
        have HS1091 := HS1078.u2
        have HS1092 := HS1091.u2
        have HS1093 := HS1092.u2
        have HS1094 := HS1093.u3
        refine heldG (S := Sg t f1075 ([(b1024, .cells #[.int .i64 x1080, .int .i64 x1081, .bool x1082] 44 (0, 0))] :: [(b1, .cells #[.slice A4 s3.L.length c5, .int .i64 x1083] 25 (0, 0))] :: s707 :: H) [(13, s986)]) (n := 14) (by kernel_rfl) rfl HS1094 ?_
        intro W1095 HS1096
        have hq_ := guard_some h; clear h; obtain ⟨c1097, h⟩ := hq_
        have c1097 : 0 ≤ x989 := c1097
        have hq_ := guard_some h; clear h; obtain ⟨c1098, h⟩ := hq_
        have c1098 : x989 < (l985.length : Int) := c1098
        obtain ⟨b1102, of1103, cs1099, hA1104, hr1100, hc1101⟩ := (HO987.mono (L1014.trans (L1021.trans L1076))).at (i := x989) c1097 c1098
        obtain ⟨A1105, c1105, rfl, HR1105⟩ := hr1100
        refine takeG [0, 1, 2, 3] (n := 14) (fuel := 10) (l' := #[true, true, true, true, false, false, false, false, false, false, false, false, false, false]) (a' := ⟨#[.pointer (some ⟨b1, 0, none⟩), iV n7, iV vf8, uV, uV, uV, .slice none 0 0, .slice none 0 0, iV vt13, iV vt20, .slice A705 (truth657 ++ ([vt687] : List Int)).length c706, .slice A47 l985.length c48, iV vt687, iV vt714, iV vt721, iV x989, .pointer (some ⟨b1024, 0, none⟩), .pointer (some ⟨b1, 0, none⟩), iV vt13, .pointer (some ⟨b1, 0, none⟩), iV vt20, iV vt13, iV vt20, .agg #[iV vt13, iV vt20, .slice none 0 0], .slice (some ⟨b31, 0, none⟩) ([(⟨vt13, vt20, ([] : List S_Bound)⟩ : S_Cells)] : List S_Cells).length 1, iV n7, .slice A47 vt41.length c48, iV vt13, iV vt20, iV (w64 (vt13 * vt20)), iV x667, .bool true, .pointer (some ⟨b1, 0, none⟩), iV vt687, .slice A658 truth657.length c659, iV vt687, .slice (some ⟨b696, 0, none⟩) ([vt687] : List Int).length 1, .slice A705 (truth657 ++ ([vt687] : List Int)).length c706, .pointer (some ⟨b1, 0, none⟩), iV vf8, iV (w64 (vf8 + 1)), iV vt714, .pointer (some ⟨b1, 0, none⟩), iV n7, iV vt721, .slice A47 l663.length c48, iV (l663.length : Int), iV x989, .bool true, iV x989, iV vt687, .pointer (some ⟨b1, 0, none⟩), iV vt1010, iV (w64 (vt687 - vt1010)), iV vt687, .pointer (some ⟨b1, 0, none⟩), iV vt1017, iV (w64 (vt687 + vt1017)), .agg #[iV (w64 (vt687 - vt1010)), iV (w64 (vt687 + vt1017)), .bool false], iV x989, iV vt721, iV (w64 (x989 - vt721)), iV n7, iV (w64 ((w64 (x989 - vt721)) + n7)), iV n7, iV (Int.tmod (w64 ((w64 (x989 - vt721)) + n7)) n7), iV vt714, (j1079 0), (j1079 1), (j1079 2), (j1079 3), (j1079 4), (j1079 5), (j1079 6), (j1079 7), (j1079 8), (j1079 9), .slice A47 l985.length c48, iV x989, .slice A47 l985.length c48, iV x989, (j984 35), (j984 36), (j984 37), (j984 38), (j984 39), (j984 40), (j984 41), (j984 42), (j984 43), (j984 44), (j656 65), uV, uV], []⟩) rfl (by kernel_rfl) (by kernel_rfl) (by kernel_rfl) (fun ch_ a_ w_ q_ => (fun ch_ a_ w_ q_ => (fun ch_ a_ w_ q_ => (fun ch_ a_ w_ q_ => hnp ch_ a_ w_ (hp61 ch_ a_ w_ q_)) ch_ a_ w_ (hp682 ch_ a_ w_ q_)) ch_ a_ w_ (hp735 ch_ a_ w_ q_)) ch_ a_ w_ (hp1004 ch_ a_ w_ q_)) (Sg.g1 (Sx.of [s986] (FM.le.refl _) HS1096) (fun _ => St.only [] HS1096 (FM.le.refl _))) ?_
        refine takeGQ 4 [] rfl (by kernel_rfl) (by kernel_rfl) (by kernel_rfl) (by kernel_rfl) (by kernel_rfl) (by kernel_rfl) (fun ch_ a_ w_ q_ => (fun ch_ a_ w_ q_ => (fun ch_ a_ w_ q_ => (fun ch_ a_ w_ q_ => hnp ch_ a_ w_ (hp61 ch_ a_ w_ q_)) ch_ a_ w_ (hp682 ch_ a_ w_ q_)) ch_ a_ w_ (hp735 ch_ a_ w_ q_)) ch_ a_ w_ (hp1004 ch_ a_ w_ q_)) (Sg.g1 (Sx.of [s986] (FM.le.refl _) HS1096) (fun _ => St.only [] HS1096 (FM.le.refl _))) (fun w_ hw_ => by obtain ⟨g_, hl_, hS_⟩ := hw_.st; exact run_indexE hA1104 (sz := 3) rfl Try.underlying27 (by kernel_rfl) (by kernel_rfl : _ = Value.slice A47 l985.length c48) (by kernel_rfl : _ = Value.int .i64 x989) c1097 c1098 w_) ?_
        refine takeG [5] (n := 9) (fuel := 8) (l' := #[true, true, true, true, true, true, false, false, false, false, false, false, false, false]) (a' := ⟨#[.pointer (some ⟨b1, 0, none⟩), iV n7, iV vf8, uV, uV, uV, .slice none 0 0, .slice none 0 0, iV vt13, iV vt20, .slice A705 (truth657 ++ ([vt687] : List Int)).length c706, .slice A47 l985.length c48, iV vt687, iV vt714, iV vt721, iV x989, .pointer (some ⟨b1024, 0, none⟩), .pointer (some ⟨b1, 0, none⟩), iV vt13, .pointer (some ⟨b1, 0, none⟩), iV vt20, iV vt13, iV vt20, .agg #[iV vt13, iV vt20, .slice none 0 0], .slice (some ⟨b31, 0, none⟩) ([(⟨vt13, vt20, ([] : List S_Bound)⟩ : S_Cells)] : List S_Cells).length 1, iV n7, .slice A47 vt41.length c48, iV vt13, iV vt20, iV (w64 (vt13 * vt20)), iV x667, .bool true, .pointer (some ⟨b1, 0, none⟩), iV vt687, .slice A658 truth657.length c659, iV vt687, .slice (some ⟨b696, 0, none⟩) ([vt687] : List Int).length 1, .slice A705 (truth657 ++ ([vt687] : List Int)).length c706, .pointer (some ⟨b1, 0, none⟩), iV vf8, iV (w64 (vf8 + 1)), iV vt714, .pointer (some ⟨b1, 0, none⟩), iV n7, iV vt721, .slice A47 l663.length c48, iV (l663.length : Int), iV x989, .bool true, iV x989, iV vt687, .pointer (some ⟨b1, 0, none⟩), iV vt1010, iV (w64 (vt687 - vt1010)), iV vt687, .pointer (some ⟨b1, 0, none⟩), iV vt1017, iV (w64 (vt687 + vt1017)), .agg #[iV (w64 (vt687 - vt1010)), iV (w64 (vt687 + vt1017)), .bool false], iV x989, iV vt721, iV (w64 (x989 - vt721)), iV n7, iV (w64 ((w64 (x989 - vt721)) + n7)), iV n7, iV (Int.tmod (w64 ((w64 (x989 - vt721)) + n7)) n7), iV vt714, (j1079 0), (j1079 1), (j1079 2), (j1079 3), (j1079 4), (j1079 5), (j1079 6), (j1079 7), (j1079 8), (j1079 9), .slice A47 l985.length c48, iV x989, .slice A47 l985.length c48, iV x989, .pointer (some ⟨b1102, of1103 + (x989 : Int).toNat * 3, none⟩), .pointer (some ⟨b1102, of1103 + (x989 : Int).toNat * 3 + 2, none⟩), (j984 37), (j984 38), (j984 39), (j984 40), (j984 41), (j984 42), (j984 43), (j984 44), (j656 65), uV, uV], []⟩) rfl (by kernel_rfl) (by kernel_rfl) (by kernel_rfl) (fun ch_ a_ w_ q_ => (fun ch_ a_ w_ q_ => (fun ch_ a_ w_ q_ => (fun ch_ a_ w_ q_ => hnp ch_ a_ w_ (hp61 ch_ a_ w_ q_)) ch_ a_ w_ (hp682 ch_ a_ w_ q_)) ch_ a_ w_ (hp735 ch_ a_ w_ q_)) ch_ a_ w_ (hp1004 ch_ a_ w_ q_)) (Sg.g1 (Sx.of [s986] (FM.le.refl _) HS1096) (fun _ => St.only [] HS1096 (FM.le.refl _))) ?_
        refine takeGQ 6 [13] rfl (by kernel_rfl) (by kernel_rfl) (by kernel_rfl) (by kernel_rfl) (by kernel_rfl) (by kernel_rfl) (fun ch_ a_ w_ q_ => (fun ch_ a_ w_ q_ => (fun ch_ a_ w_ q_ => (fun ch_ a_ w_ q_ => hnp ch_ a_ w_ (hp61 ch_ a_ w_ q_)) ch_ a_ w_ (hp682 ch_ a_ w_ q_)) ch_ a_ w_ (hp735 ch_ a_ w_ q_)) ch_ a_ w_ (hp1004 ch_ a_ w_ q_)) (Sg.g1 (Sx.of [s986] (FM.le.refl _) HS1096) (fun _ => St.only [] HS1096 (FM.le.refl _))) (fun w_ hw_ => by obtain ⟨g_, hl_, hS_⟩ := hw_.seg (j := 13) (s := s986) (by simp) (by simp); exact run_load rfl Try.underlying32 rfl (by kernel_rfl : _ = Value.pointer (some ⟨b1102, of1103 + (x989 : Int).toNat * 3 + 2, none⟩)) ((hc1101 hS_) 2 (by decide))) ?_
        refine takeGQ 8 [] rfl (by kernel_rfl) (by kernel_rfl) (by kernel_rfl) (by kernel_rfl) (by kernel_rfl) (by kernel_rfl) (fun ch_ a_ w_ q_ => (fun ch_ a_ w_ q_ => (fun ch_ a_ w_ q_ => (fun ch_ a_ w_ q_ => hnp ch_ a_ w_ (hp61 ch_ a_ w_ q_)) ch_ a_ w_ (hp682 ch_ a_ w_ q_)) ch_ a_ w_ (hp735 ch_ a_ w_ q_)) ch_ a_ w_ (hp1004 ch_ a_ w_ q_)) (Sg.g1 (Sx.of [s986] (FM.le.refl _) HS1096) (fun _ => St.only [] HS1096 (FM.le.refl _))) (fun w_ hw_ => by obtain ⟨g_, hl_, hS_⟩ := hw_.st; exact run_loadN (n := 3) rfl Try.underlying44 rfl (by kernel_rfl) (by kernel_rfl : _ = Value.pointer (some ⟨b1024, 0, none⟩)) (cs := [.int .i64 x1080, .int .i64 x1081, .bool x1082]) rfl (hS_.cells 0 3 _ rfl)) ?_
        have hq_ := bind_some h; clear h; obtain ⟨vt1106, hc1107, h⟩ := hq_
        have hq_ := guard_some h; clear h; obtain ⟨c1123, h⟩ := hq_
        have c1123 : (vt1106.length + 1) * 24 ≤ 140737488355328 := c1123
        refine withR #[true, true, true, true, true, true, true, true, true, true, true, true, true, true] ?_
        intro R1155 hR1156 hR1157
        have J1158 : ∀ (f1124 : FM) (A1128 : Option Addr) (c1129 : Nat) (s1130 : Seg) (b1133 : Nat) (s1135 : Seg) (A1141 : Option Addr) (c1142 : Nat) (s1143 : Seg) (f1147 : FM) (s1152 : Seg) (W1159 : World) (a_ : Act), FM.le f1075 f1124 → Own ty_Bound 44 f1124 A1128 c1129 s1130 vt1106 → Own ty_Bound 44 f1124 (some ⟨b1133, 0, none⟩) 1 s1135 ([(⟨x1080, x1081, x1082⟩ : S_Bound)] : List S_Bound) → Own ty_Bound 44 f1124 A1141 c1142 s1143 (vt1106 ++ ([(⟨x1080, x1081, x1082⟩ : S_Bound)] : List S_Bound)) → FM.le f1124 f1147 → SlR ty_Bound f1147 A1141 c1142 (vt1106 ++ ([(⟨x1080, x1081, x1082⟩ : S_Bound)] : List S_Bound)) → Own ty_Cells 34 f1147 A47 c48 s1152 (l985.set (x989).toNat (⟨(rd l985 x989).W, (rd l985 x989).H, (vt1106 ++ ([(⟨x1080, x1081, x1082⟩ : S_Bound)] : List S_Bound))⟩ : S_Cells)) → St t W1159 f1147 (s1152 :: [(b1024, .cells #[.int .i64 x1080, .int .i64 x1081, .bool x1082] 44 (0, 0))] :: [(b1, .cells #[.slice A4 s3.L.length c5, .int .i64 x1083] 25 (0, 0))] :: s707 :: H) → a_ = ⟨#[.pointer (some ⟨b1, 0, none⟩), iV n7, iV vf8, uV, uV, uV, .slice none 0 0, .slice none 0 0, iV vt13, iV vt20, .slice A705 (truth657 ++ ([vt687] : List Int)).length c706, .slice A47 (l985.set (x989).toNat (⟨(rd l985 x989).W, (rd l985 x989).H, (vt1106 ++ ([(⟨x1080, x1081, x1082⟩ : S_Bound)] : List S_Bound))⟩ : S_Cells)).length c48, iV vt687, iV vt714, iV vt721, iV x989, .pointer (some ⟨b1024, 0, none⟩), .pointer (some ⟨b1, 0, none⟩), iV vt13, .pointer (some ⟨b1, 0, none⟩), iV vt20, iV vt13, iV vt20, .agg #[iV vt13, iV vt20, .slice none 0 0], .slice (some ⟨b31, 0, none⟩) ([(⟨vt13, vt20, ([] : List S_Bound)⟩ : S_Cells)] : List S_Cells).length 1, iV n7, .slice A47 vt41.length c48, iV vt13, iV vt20, iV (w64 (vt13 * vt20)), iV x667, .bool true, .pointer (some ⟨b1, 0, none⟩), iV vt687, .slice A658 truth657.length c659, iV vt687, .slice (some ⟨b696, 0, none⟩) ([vt687] : List Int).length 1, .slice A705 (truth657 ++ ([vt687] : List Int)).length c706, .pointer (some ⟨b1, 0, none⟩), iV vf8, iV (w64 (vf8 + 1)), iV vt714, .pointer (some ⟨b1, 0, none⟩), iV n7, iV vt721, .slice A47 l663.length c48, iV (l663.length : Int), iV x989, .bool true, iV x989, iV vt687, .pointer (some ⟨b1, 0, none⟩), iV vt1010, iV (w64 (vt687 - vt1010)), iV vt687, .pointer (some ⟨b1, 0, none⟩), iV vt1017, iV (w64 (vt687 + vt1017)), .agg #[iV (w64 (vt687 - vt1010)), iV (w64 (vt687 + vt1017)), .bool false], iV x989, iV vt721, iV (w64 (x989 - vt721)), iV n7, iV (w64 ((w64 (x989 - vt721)) + n7)), iV n7, iV (Int.tmod (w64 ((w64 (x989 - vt721)) + n7)) n7), iV vt714, (j1079 0), (j1079 1), (j1079 2), (j1079 3), (j1079 4), (j1079 5), (j1079 6), (j1079 7), (j1079 8), (j1079 9), .slice A47 (l985.set (x989).toNat (⟨(rd l985 x989).W, (rd l985 x989).H, (vt1106 ++ ([(⟨x1080, x1081, x1082⟩ : S_Bound)] : List S_Bound))⟩ : S_Cells)).length c48, iV x989, .slice A47 (l985.set (x989).toNat (⟨(rd l985 x989).W, (rd l985 x989).H, (vt1106 ++ ([(⟨x1080, x1081, x1082⟩ : S_Bound)] : List S_Bound))⟩ : S_Cells)).length c48, iV x989, .pointer (some ⟨b1102, of1103 + (x989 : Int).toNat * 3, none⟩), .pointer (some ⟨b1102, of1103 + (x989 : Int).toNat * 3 + 2, none⟩), .slice A1105 ((rd l985 x989).At).length c1105, .slice A1128 vt1106.length c1129, .agg #[iV x1080, iV x1081, .bool x1082], .slice (some ⟨b1133, 0, none⟩) ([(⟨x1080, x1081, x1082⟩ : S_Bound)] : List S_Bound).length 1, .slice A1141 (vt1106 ++ ([(⟨x1080, x1081, x1082⟩ : S_Bound)] : List S_Bound)).length c1142, .pointer (some ⟨b1102, of1103 + (x989 : Int).toNat * 3, none⟩), .pointer (some ⟨b1102, of1103 + (x989 : Int).toNat * 3 + 2, none⟩), (j984 44), (j656 65), uV, uV], []⟩ → R1155 a_ W1159 := by
          intro f1124 A1128 c1129 s1130 b1133 s1135 A1141 c1142 s1143 f1147 s1152 W1159 a_ L1125 HO1131 HO1137 HO1146 L1148 HR1150 HO1154 HS1160 hfr_; subst hfr_
          refine hR1156 _ _ ?_
          refine doneG (by kernel_rfl) ?_ _
          refine hn1001 _ _ ?_
          refine hK998 _ _ ?_
          refine wp_region_lit ?_
          refine seqS2 (a' := ⟨#[.pointer (some ⟨b1, 0, none⟩), iV n7, iV vf8, uV, uV, uV, .slice none 0 0, .slice none 0 0, iV vt13, iV vt20, .slice A705 (truth657 ++ ([vt687] : List Int)).length c706, .slice A47 (l985.set (x989).toNat (⟨(rd l985 x989).W, (rd l985 x989).H, (vt1106 ++ ([(⟨x1080, x1081, x1082⟩ : S_Bound)] : List S_Bound))⟩ : S_Cells)).length c48, iV vt687, iV vt714, iV vt721, iV x989, .pointer (some ⟨b1024, 0, none⟩), .pointer (some ⟨b1, 0, none⟩), iV vt13, .pointer (some ⟨b1, 0, none⟩), iV vt20, iV vt13, iV vt20, .agg #[iV vt13, iV vt20, .slice none 0 0], .slice (some ⟨b31, 0, none⟩) ([(⟨vt13, vt20, ([] : List S_Bound)⟩ : S_Cells)] : List S_Cells).length 1, iV n7, .slice A47 vt41.length c48, iV vt13, iV vt20, iV (w64 (vt13 * vt20)), iV x667, .bool true, .pointer (some ⟨b1, 0, none⟩), iV vt687, .slice A658 truth657.length c659, iV vt687, .slice (some ⟨b696, 0, none⟩) ([vt687] : List Int).length 1, .slice A705 (truth657 ++ ([vt687] : List Int)).length c706, .pointer (some ⟨b1, 0, none⟩), iV vf8, iV (w64 (vf8 + 1)), iV vt714, .pointer (some ⟨b1, 0, none⟩), iV n7, iV vt721, .slice A47 l663.length c48, iV (l663.length : Int), iV (w64 (x989 + 1)), .bool true, iV x989, iV vt687, .pointer (some ⟨b1, 0, none⟩), iV vt1010, iV (w64 (vt687 - vt1010)), iV vt687, .pointer (some ⟨b1, 0, none⟩), iV vt1017, iV (w64 (vt687 + vt1017)), .agg #[iV (w64 (vt687 - vt1010)), iV (w64 (vt687 + vt1017)), .bool false], iV x989, iV vt721, iV (w64 (x989 - vt721)), iV n7, iV (w64 ((w64 (x989 - vt721)) + n7)), iV n7, iV (Int.tmod (w64 ((w64 (x989 - vt721)) + n7)) n7), iV vt714, (j1079 0), (j1079 1), (j1079 2), (j1079 3), (j1079 4), (j1079 5), (j1079 6), (j1079 7), (j1079 8), (j1079 9), .slice A47 (l985.set (x989).toNat (⟨(rd l985 x989).W, (rd l985 x989).H, (vt1106 ++ ([(⟨x1080, x1081, x1082⟩ : S_Bound)] : List S_Bound))⟩ : S_Cells)).length c48, iV x989, .slice A47 (l985.set (x989).toNat (⟨(rd l985 x989).W, (rd l985 x989).H, (vt1106 ++ ([(⟨x1080, x1081, x1082⟩ : S_Bound)] : List S_Bound))⟩ : S_Cells)).length c48, iV x989, .pointer (some ⟨b1102, of1103 + (x989 : Int).toNat * 3, none⟩), .pointer (some ⟨b1102, of1103 + (x989 : Int).toNat * 3 + 2, none⟩), .slice A1105 ((rd l985 x989).At).length c1105, .slice A1128 vt1106.length c1129, .agg #[iV x1080, iV x1081, .bool x1082], .slice (some ⟨b1133, 0, none⟩) ([(⟨x1080, x1081, x1082⟩ : S_Bound)] : List S_Bound).length 1, .slice A1141 (vt1106 ++ ([(⟨x1080, x1081, x1082⟩ : S_Bound)] : List S_Bound)).length c1142, .pointer (some ⟨b1102, of1103 + (x989 : Int).toNat * 3, none⟩), .pointer (some ⟨b1102, of1103 + (x989 : Int).toNat * 3 + 2, none⟩), iV (w64 (x989 + 1)), (j656 65), uV, uV], []⟩) (by kernel_rfl) ?_
          refine wpList_nil ?_
          refine hK978 n979 _ _ (Nat.lt_succ_self _) ?_
          have HS1235 := HS1160.u3
          have HS1236 := HS1235.u3
          have HS1237 := HS1236.u3
          have HS1238 := HS1237.drop
          exact ⟨f1147, s1152, (l985.set (x989).toNat (⟨(rd l985 x989).W, (rd l985 x989).H, (vt1106 ++ ([(⟨x1080, x1081, x1082⟩ : S_Bound)] : List S_Bound))⟩ : S_Cells)), (w64 (x989 + 1)), x1083, (fun i_ => [Value.int .i64 x989, Value.pointer (some ⟨b1024, 0, none⟩), Value.bool true, Value.int .i64 x989, Value.int .i64 vt687, Value.pointer (some ⟨b1, 0, none⟩), Value.int .i64 vt1010, Value.int .i64 (w64 (vt687 - vt1010)), Value.int .i64 vt687, Value.pointer (some ⟨b1, 0, none⟩), Value.int .i64 vt1017, Value.int .i64 (w64 (vt687 + vt1017)), Value.agg #[.int .i64 (w64 (vt687 - vt1010)), .int .i64 (w64 (vt687 + vt1017)), .bool false], Value.int .i64 x989, Value.int .i64 vt721, Value.int .i64 (w64 (x989 - vt721)), Value.int .i64 n7, Value.int .i64 (w64 ((w64 (x989 - vt721)) + n7)), Value.int .i64 n7, Value.int .i64 (Int.tmod (w64 ((w64 (x989 - vt721)) + n7)) n7), Value.int .i64 vt714, (j1079 0), (j1079 1), (j1079 2), (j1079 3), (j1079 4), (j1079 5), (j1079 6), (j1079 7), (j1079 8), (j1079 9), Value.slice A47 (l985.set (x989).toNat (⟨(rd l985 x989).W, (rd l985 x989).H, (vt1106 ++ ([(⟨x1080, x1081, x1082⟩ : S_Bound)] : List S_Bound))⟩ : S_Cells)).length c48, Value.int .i64 x989, Value.slice A47 (l985.set (x989).toNat (⟨(rd l985 x989).W, (rd l985 x989).H, (vt1106 ++ ([(⟨x1080, x1081, x1082⟩ : S_Bound)] : List S_Bound))⟩ : S_Cells)).length c48, Value.int .i64 x989, Value.pointer (some ⟨b1102, of1103 + (x989 : Int).toNat * 3, none⟩), Value.pointer (some ⟨b1102, of1103 + (x989 : Int).toNat * 3 + 2, none⟩), Value.slice A1105 ((rd l985 x989).At).length c1105, Value.slice A1128 vt1106.length c1129, Value.agg #[.int .i64 x1080, .int .i64 x1081, .bool x1082], Value.slice (some ⟨b1133, 0, none⟩) ([(⟨x1080, x1081, x1082⟩ : S_Bound)] : List S_Bound).length 1, Value.slice A1141 (vt1106 ++ ([(⟨x1080, x1081, x1082⟩ : S_Bound)] : List S_Bound)).length c1142, Value.pointer (some ⟨b1102, of1103 + (x989 : Int).toNat * 3, none⟩), Value.pointer (some ⟨b1102, of1103 + (x989 : Int).toNat * 3 + 2, none⟩), Value.int .i64 (w64 (x989 + 1))].getD i_ undef), (L981.trans (L1014.trans (L1021.trans (L1076.trans (L1125.trans L1148))))), HS1238, HO1154, (List.length_set.trans HL988), h, (by kernel_rfl)⟩
        refine takeEither 7 9 (by kernel_rfl) rfl rfl rfl rfl ?_ ?_
        · refine does_call (f := 37) (args := #[.slice A1105 ((rd l985 x989).At).length c1105]) (by kernel_rfl) (slices_Clone_Bound_Quanta.calls k A1105 c1105 ((rd l985 x989).At) HS1096 HR1105 vt1106 hc1107) ?_
          rintro _ W1163 ⟨f1161, A1165, c1166, s1167, rfl, L1162, HS1164, HO1168⟩
          refine ⟨_, rfl, ?_⟩
          refine ⟨(Sg.g1 (Sx.of [s1167, s986] L1162 HS1164) (fun _ => St.only [s1167] HS1164 L1162)), ?_⟩
          refine takeGE 9 (by kernel_rfl) rfl (by kernel_rfl) (does_lit (e := ty_Bound) (E := 44) (vs := #[(0, Value.agg #[.int .i64 x1080, .int .i64 x1081, .bool x1082])]) (cs := #[.int .i64 x1080, .int .i64 x1081, .bool x1082]) (xs := ([(⟨x1080, x1081, x1082⟩ : S_Bound)] : List S_Bound)) rfl Try.underlying32 (by kernel_rfl) (by kernel_rfl) ⟨[.int .i64 x1080, .int .i64 x1081, .bool x1082], _, rfl, rfl, rfl⟩ rfl HS1164 ?_ (by decide))
          intro b1170 W1171 s1172 HS1173 _ HO1174
          refine ⟨(Sg.g1 (Sx.of [s1172, s1167, s986] L1162 HS1173) (fun _ => St.only [s1172, s1167] HS1173 L1162)), ?_⟩
          have HS1176 := HS1173.u1
          have HS1177 := HS1176.u1
          refine takeGE 10 (by kernel_rfl) rfl (by kernel_rfl) (does_append1 (e := ty_Bound) (E := 44) (xs := vt1106) (ys := ([(⟨x1080, x1081, x1082⟩ : S_Bound)] : List S_Bound)) rfl (by kernel_rfl : _ = Value.slice A1165 vt1106.length c1166) (by kernel_rfl : _ = Value.slice (some ⟨b1170, 0, none⟩) ([(⟨x1080, x1081, x1082⟩ : S_Bound)] : List S_Bound).length 1) Try.underlying32 inf44 HO1168 HO1174 HS1177 c1123 (lim63 c1123 (by decide)) ?_)
          intro A1178 c1179 s1180 W1181 HS1182 HO1183
          refine ⟨(Sg.g1 (Sx.of [s1180, s986] L1162 HS1182) (fun _ => St.only [s1180] HS1182 L1162)), ?_⟩
          refine takeGQ 11 [] rfl (by kernel_rfl) (by kernel_rfl) (by kernel_rfl) (by kernel_rfl) (by kernel_rfl) (by kernel_rfl) (fun ch_ a_ w_ q_ => (fun ch_ a_ w_ q_ => (fun ch_ a_ w_ q_ => (fun ch_ a_ w_ q_ => hnp ch_ a_ w_ (hp61 ch_ a_ w_ q_)) ch_ a_ w_ (hp682 ch_ a_ w_ q_)) ch_ a_ w_ (hp735 ch_ a_ w_ q_)) ch_ a_ w_ (hp1004 ch_ a_ w_ q_)) (Sg.g1 (Sx.of [s1180, s986] L1162 HS1182) (fun _ => St.only [s1180] HS1182 L1162)) (fun w_ hw_ => by obtain ⟨g_, hl_, hS_⟩ := hw_.st; exact run_indexE hA1104 (sz := 3) rfl Try.underlying27 (by kernel_rfl) (by kernel_rfl : _ = Value.slice A47 l985.length c48) (by kernel_rfl : _ = Value.int .i64 x989) c1097 c1098 w_) ?_
          refine takeG [12] (n := 2) (fuel := 1) (l' := #[true, true, true, true, true, true, true, true, true, true, true, true, true, false]) (a' := ⟨#[.pointer (some ⟨b1, 0, none⟩), iV n7, iV vf8, uV, uV, uV, .slice none 0 0, .slice none 0 0, iV vt13, iV vt20, .slice A705 (truth657 ++ ([vt687] : List Int)).length c706, .slice A47 l985.length c48, iV vt687, iV vt714, iV vt721, iV x989, .pointer (some ⟨b1024, 0, none⟩), .pointer (some ⟨b1, 0, none⟩), iV vt13, .pointer (some ⟨b1, 0, none⟩), iV vt20, iV vt13, iV vt20, .agg #[iV vt13, iV vt20, .slice none 0 0], .slice (some ⟨b31, 0, none⟩) ([(⟨vt13, vt20, ([] : List S_Bound)⟩ : S_Cells)] : List S_Cells).length 1, iV n7, .slice A47 vt41.length c48, iV vt13, iV vt20, iV (w64 (vt13 * vt20)), iV x667, .bool true, .pointer (some ⟨b1, 0, none⟩), iV vt687, .slice A658 truth657.length c659, iV vt687, .slice (some ⟨b696, 0, none⟩) ([vt687] : List Int).length 1, .slice A705 (truth657 ++ ([vt687] : List Int)).length c706, .pointer (some ⟨b1, 0, none⟩), iV vf8, iV (w64 (vf8 + 1)), iV vt714, .pointer (some ⟨b1, 0, none⟩), iV n7, iV vt721, .slice A47 l663.length c48, iV (l663.length : Int), iV x989, .bool true, iV x989, iV vt687, .pointer (some ⟨b1, 0, none⟩), iV vt1010, iV (w64 (vt687 - vt1010)), iV vt687, .pointer (some ⟨b1, 0, none⟩), iV vt1017, iV (w64 (vt687 + vt1017)), .agg #[iV (w64 (vt687 - vt1010)), iV (w64 (vt687 + vt1017)), .bool false], iV x989, iV vt721, iV (w64 (x989 - vt721)), iV n7, iV (w64 ((w64 (x989 - vt721)) + n7)), iV n7, iV (Int.tmod (w64 ((w64 (x989 - vt721)) + n7)) n7), iV vt714, (j1079 0), (j1079 1), (j1079 2), (j1079 3), (j1079 4), (j1079 5), (j1079 6), (j1079 7), (j1079 8), (j1079 9), .slice A47 l985.length c48, iV x989, .slice A47 l985.length c48, iV x989, .pointer (some ⟨b1102, of1103 + (x989 : Int).toNat * 3, none⟩), .pointer (some ⟨b1102, of1103 + (x989 : Int).toNat * 3 + 2, none⟩), .slice A1105 ((rd l985 x989).At).length c1105, .slice A1165 vt1106.length c1166, .agg #[iV x1080, iV x1081, .bool x1082], .slice (some ⟨b1170, 0, none⟩) ([(⟨x1080, x1081, x1082⟩ : S_Bound)] : List S_Bound).length 1, .slice A1178 (vt1106 ++ ([(⟨x1080, x1081, x1082⟩ : S_Bound)] : List S_Bound)).length c1179, .pointer (some ⟨b1102, of1103 + (x989 : Int).toNat * 3, none⟩), .pointer (some ⟨b1102, of1103 + (x989 : Int).toNat * 3 + 2, none⟩), (j984 44), (j656 65), uV, uV], []⟩) rfl (by kernel_rfl) (by kernel_rfl) (by kernel_rfl) (fun ch_ a_ w_ q_ => (fun ch_ a_ w_ q_ => (fun ch_ a_ w_ q_ => (fun ch_ a_ w_ q_ => hnp ch_ a_ w_ (hp61 ch_ a_ w_ q_)) ch_ a_ w_ (hp682 ch_ a_ w_ q_)) ch_ a_ w_ (hp735 ch_ a_ w_ q_)) ch_ a_ w_ (hp1004 ch_ a_ w_ q_)) (Sg.g1 (Sx.of [s1180, s986] L1162 HS1182) (fun _ => St.only [s1180] HS1182 L1162)) ?_
          obtain ⟨f1184, L1185, HS1186, HR1187⟩ := HO1183.freeze HS1182
          refine takeGE 13 (by kernel_rfl) rfl (by kernel_rfl) (does_putP (e := ty_Cells) (E := 34) (fo := 2) (vs := [.slice A1178 (vt1106 ++ ([(⟨x1080, x1081, x1082⟩ : S_Bound)] : List S_Bound)).length c1179]) (u := (⟨(rd l985 x989).W, (rd l985 x989).H, (vt1106 ++ ([(⟨x1080, x1081, x1082⟩ : S_Bound)] : List S_Bound))⟩ : S_Cells)) (i := x989) rfl (by kernel_rfl) (HO987.mono (L1014.trans (L1021.trans (L1076.trans (L1162.trans L1185))))) HS1186 hA1104 (by kernel_rfl : _ = Value.pointer (some ⟨b1102, of1103 + (x989 : Int).toNat * 3 + 2, none⟩)) (by kernel_rfl : _ = Value.slice A1178 (vt1106 ++ ([(⟨x1080, x1081, x1082⟩ : S_Bound)] : List S_Bound)).length c1179) rfl rfl (by intro u_ hu_; simp only [List.mem_cons, List.not_mem_nil, or_false] at hu_; subst hu_; rfl) (u0 := (rd l985 x989)) ⟨A1105, c1105, rfl, (HR1105.mono (L1162.trans L1185))⟩ rfl ⟨A1178, c1179, rfl, HR1187⟩ (Nat.le_of_ble_eq_true rfl) (hc1101 HS1186) c1097 c1098 ?_)
          intro W1188 s1189 HS1190 HO1191
          refine ⟨(Sg.g1 (Sx.of [s1189] (L1162.trans L1185) HS1190) (fun hl_ => Bool.noConfusion (show true = false from hl_))), ?_⟩
          refine gateRwS 11 (A := A47) (m := l985.length) (n := (l985.set (x989).toNat (⟨(rd l985 x989).W, (rd l985 x989).H, (vt1106 ++ ([(⟨x1080, x1081, x1082⟩ : S_Bound)] : List S_Bound))⟩ : S_Cells)).length) (c := c48) (by kernel_rfl) (List.length_set).symm ?_
          refine gateRwS 77 (A := A47) (m := l985.length) (n := (l985.set (x989).toNat (⟨(rd l985 x989).W, (rd l985 x989).H, (vt1106 ++ ([(⟨x1080, x1081, x1082⟩ : S_Bound)] : List S_Bound))⟩ : S_Cells)).length) (c := c48) (by kernel_rfl) (List.length_set).symm ?_
          refine gateRwS 79 (A := A47) (m := l985.length) (n := (l985.set (x989).toNat (⟨(rd l985 x989).W, (rd l985 x989).H, (vt1106 ++ ([(⟨x1080, x1081, x1082⟩ : S_Bound)] : List S_Bound))⟩ : S_Cells)).length) (c := c48) (by kernel_rfl) (List.length_set).symm ?_
          refine hR1157 _ _ ?_
          exact J1158 f1161 A1165 c1166 s1167 b1170 s1172 A1178 c1179 s1180 f1184 s1189 W1188 _ L1162 HO1168 HO1174 HO1183 L1185 HR1187 HO1191 HS1190 (by kernel_rfl)
        · refine does_lit (e := ty_Bound) (E := 44) (vs := #[(0, Value.agg #[.int .i64 x1080, .int .i64 x1081, .bool x1082])]) (cs := #[.int .i64 x1080, .int .i64 x1081, .bool x1082]) (xs := ([(⟨x1080, x1081, x1082⟩ : S_Bound)] : List S_Bound)) rfl Try.underlying32 (by kernel_rfl) (by kernel_rfl) ⟨[.int .i64 x1080, .int .i64 x1081, .bool x1082], _, rfl, rfl, rfl⟩ rfl HS1096 ?_ (by decide)
          intro b1192 W1193 s1194 HS1195 _ HO1196
          refine ⟨(Sg.g1 (Sx.of [s1194, s986] (FM.le.refl _) HS1195) (fun _ => St.only [s1194] HS1195 (FM.le.refl _))), ?_⟩
          refine takeGE 7 (by kernel_rfl) rfl (by kernel_rfl) (does_call (f := 37) (args := #[.slice A1105 ((rd l985 x989).At).length c1105]) (by kernel_rfl) (slices_Clone_Bound_Quanta.calls k A1105 c1105 ((rd l985 x989).At) HS1195 HR1105 vt1106 hc1107) ?_)
          rintro _ W1200 ⟨f1198, A1202, c1203, s1204, rfl, L1199, HS1201, HO1205⟩
          refine ⟨_, rfl, ?_⟩
          refine ⟨(Sg.g1 (Sx.of [s1204, s1194, s986] L1199 HS1201) (fun _ => St.only [s1204, s1194] HS1201 L1199)), ?_⟩
          have HS1207 := HS1201.u1
          refine takeGE 10 (by kernel_rfl) rfl (by kernel_rfl) (does_append1 (e := ty_Bound) (E := 44) (xs := vt1106) (ys := ([(⟨x1080, x1081, x1082⟩ : S_Bound)] : List S_Bound)) rfl (by kernel_rfl : _ = Value.slice A1202 vt1106.length c1203) (by kernel_rfl : _ = Value.slice (some ⟨b1192, 0, none⟩) ([(⟨x1080, x1081, x1082⟩ : S_Bound)] : List S_Bound).length 1) Try.underlying32 inf44 HO1205 (HO1196.mono L1199) HS1207 c1123 (lim63 c1123 (by decide)) ?_)
          intro A1208 c1209 s1210 W1211 HS1212 HO1213
          refine ⟨(Sg.g1 (Sx.of [s1210, s986] L1199 HS1212) (fun _ => St.only [s1210] HS1212 L1199)), ?_⟩
          refine takeGQ 11 [] rfl (by kernel_rfl) (by kernel_rfl) (by kernel_rfl) (by kernel_rfl) (by kernel_rfl) (by kernel_rfl) (fun ch_ a_ w_ q_ => (fun ch_ a_ w_ q_ => (fun ch_ a_ w_ q_ => (fun ch_ a_ w_ q_ => hnp ch_ a_ w_ (hp61 ch_ a_ w_ q_)) ch_ a_ w_ (hp682 ch_ a_ w_ q_)) ch_ a_ w_ (hp735 ch_ a_ w_ q_)) ch_ a_ w_ (hp1004 ch_ a_ w_ q_)) (Sg.g1 (Sx.of [s1210, s986] L1199 HS1212) (fun _ => St.only [s1210] HS1212 L1199)) (fun w_ hw_ => by obtain ⟨g_, hl_, hS_⟩ := hw_.st; exact run_indexE hA1104 (sz := 3) rfl Try.underlying27 (by kernel_rfl) (by kernel_rfl : _ = Value.slice A47 l985.length c48) (by kernel_rfl : _ = Value.int .i64 x989) c1097 c1098 w_) ?_
          refine takeG [12] (n := 2) (fuel := 1) (l' := #[true, true, true, true, true, true, true, true, true, true, true, true, true, false]) (a' := ⟨#[.pointer (some ⟨b1, 0, none⟩), iV n7, iV vf8, uV, uV, uV, .slice none 0 0, .slice none 0 0, iV vt13, iV vt20, .slice A705 (truth657 ++ ([vt687] : List Int)).length c706, .slice A47 l985.length c48, iV vt687, iV vt714, iV vt721, iV x989, .pointer (some ⟨b1024, 0, none⟩), .pointer (some ⟨b1, 0, none⟩), iV vt13, .pointer (some ⟨b1, 0, none⟩), iV vt20, iV vt13, iV vt20, .agg #[iV vt13, iV vt20, .slice none 0 0], .slice (some ⟨b31, 0, none⟩) ([(⟨vt13, vt20, ([] : List S_Bound)⟩ : S_Cells)] : List S_Cells).length 1, iV n7, .slice A47 vt41.length c48, iV vt13, iV vt20, iV (w64 (vt13 * vt20)), iV x667, .bool true, .pointer (some ⟨b1, 0, none⟩), iV vt687, .slice A658 truth657.length c659, iV vt687, .slice (some ⟨b696, 0, none⟩) ([vt687] : List Int).length 1, .slice A705 (truth657 ++ ([vt687] : List Int)).length c706, .pointer (some ⟨b1, 0, none⟩), iV vf8, iV (w64 (vf8 + 1)), iV vt714, .pointer (some ⟨b1, 0, none⟩), iV n7, iV vt721, .slice A47 l663.length c48, iV (l663.length : Int), iV x989, .bool true, iV x989, iV vt687, .pointer (some ⟨b1, 0, none⟩), iV vt1010, iV (w64 (vt687 - vt1010)), iV vt687, .pointer (some ⟨b1, 0, none⟩), iV vt1017, iV (w64 (vt687 + vt1017)), .agg #[iV (w64 (vt687 - vt1010)), iV (w64 (vt687 + vt1017)), .bool false], iV x989, iV vt721, iV (w64 (x989 - vt721)), iV n7, iV (w64 ((w64 (x989 - vt721)) + n7)), iV n7, iV (Int.tmod (w64 ((w64 (x989 - vt721)) + n7)) n7), iV vt714, (j1079 0), (j1079 1), (j1079 2), (j1079 3), (j1079 4), (j1079 5), (j1079 6), (j1079 7), (j1079 8), (j1079 9), .slice A47 l985.length c48, iV x989, .slice A47 l985.length c48, iV x989, .pointer (some ⟨b1102, of1103 + (x989 : Int).toNat * 3, none⟩), .pointer (some ⟨b1102, of1103 + (x989 : Int).toNat * 3 + 2, none⟩), .slice A1105 ((rd l985 x989).At).length c1105, .slice A1202 vt1106.length c1203, .agg #[iV x1080, iV x1081, .bool x1082], .slice (some ⟨b1192, 0, none⟩) ([(⟨x1080, x1081, x1082⟩ : S_Bound)] : List S_Bound).length 1, .slice A1208 (vt1106 ++ ([(⟨x1080, x1081, x1082⟩ : S_Bound)] : List S_Bound)).length c1209, .pointer (some ⟨b1102, of1103 + (x989 : Int).toNat * 3, none⟩), .pointer (some ⟨b1102, of1103 + (x989 : Int).toNat * 3 + 2, none⟩), (j984 44), (j656 65), uV, uV], []⟩) rfl (by kernel_rfl) (by kernel_rfl) (by kernel_rfl) (fun ch_ a_ w_ q_ => (fun ch_ a_ w_ q_ => (fun ch_ a_ w_ q_ => (fun ch_ a_ w_ q_ => hnp ch_ a_ w_ (hp61 ch_ a_ w_ q_)) ch_ a_ w_ (hp682 ch_ a_ w_ q_)) ch_ a_ w_ (hp735 ch_ a_ w_ q_)) ch_ a_ w_ (hp1004 ch_ a_ w_ q_)) (Sg.g1 (Sx.of [s1210, s986] L1199 HS1212) (fun _ => St.only [s1210] HS1212 L1199)) ?_
          obtain ⟨f1214, L1215, HS1216, HR1217⟩ := HO1213.freeze HS1212
          refine takeGE 13 (by kernel_rfl) rfl (by kernel_rfl) (does_putP (e := ty_Cells) (E := 34) (fo := 2) (vs := [.slice A1208 (vt1106 ++ ([(⟨x1080, x1081, x1082⟩ : S_Bound)] : List S_Bound)).length c1209]) (u := (⟨(rd l985 x989).W, (rd l985 x989).H, (vt1106 ++ ([(⟨x1080, x1081, x1082⟩ : S_Bound)] : List S_Bound))⟩ : S_Cells)) (i := x989) rfl (by kernel_rfl) (HO987.mono (L1014.trans (L1021.trans (L1076.trans (L1199.trans L1215))))) HS1216 hA1104 (by kernel_rfl : _ = Value.pointer (some ⟨b1102, of1103 + (x989 : Int).toNat * 3 + 2, none⟩)) (by kernel_rfl : _ = Value.slice A1208 (vt1106 ++ ([(⟨x1080, x1081, x1082⟩ : S_Bound)] : List S_Bound)).length c1209) rfl rfl (by intro u_ hu_; simp only [List.mem_cons, List.not_mem_nil, or_false] at hu_; subst hu_; rfl) (u0 := (rd l985 x989)) ⟨A1105, c1105, rfl, (HR1105.mono (L1199.trans L1215))⟩ rfl ⟨A1208, c1209, rfl, HR1217⟩ (Nat.le_of_ble_eq_true rfl) (hc1101 HS1216) c1097 c1098 ?_)
          intro W1218 s1219 HS1220 HO1221
          refine ⟨(Sg.g1 (Sx.of [s1219] (L1199.trans L1215) HS1220) (fun hl_ => Bool.noConfusion (show true = false from hl_))), ?_⟩
          refine gateRwS 11 (A := A47) (m := l985.length) (n := (l985.set (x989).toNat (⟨(rd l985 x989).W, (rd l985 x989).H, (vt1106 ++ ([(⟨x1080, x1081, x1082⟩ : S_Bound)] : List S_Bound))⟩ : S_Cells)).length) (c := c48) (by kernel_rfl) (List.length_set).symm ?_
          refine gateRwS 77 (A := A47) (m := l985.length) (n := (l985.set (x989).toNat (⟨(rd l985 x989).W, (rd l985 x989).H, (vt1106 ++ ([(⟨x1080, x1081, x1082⟩ : S_Bound)] : List S_Bound))⟩ : S_Cells)).length) (c := c48) (by kernel_rfl) (List.length_set).symm ?_
          refine gateRwS 79 (A := A47) (m := l985.length) (n := (l985.set (x989).toNat (⟨(rd l985 x989).W, (rd l985 x989).H, (vt1106 ++ ([(⟨x1080, x1081, x1082⟩ : S_Bound)] : List S_Bound))⟩ : S_Cells)).length) (c := c48) (by kernel_rfl) (List.length_set).symm ?_
          refine hR1157 _ _ ?_
          exact J1158 f1198 A1202 c1203 s1204 b1192 s1194 A1208 c1209 s1210 f1214 s1219 W1218 _ L1199 HO1205 HO1196 HO1213 L1215 HR1217 HO1221 HS1220 (by kernel_rfl)
      clear h; have h := hv1084; clear hv1084
      have hq_ := ite_some h; clear h; rcases hq_ with ⟨c1036, h⟩ | ⟨c1036, h⟩
      · have c1036 : (Int.tmod (w64 ((w64 (x989 - vt721)) + n7)) n7) < vt714 := c1036
        refine wpRwI 67 (x := (decide ((Int.tmod (w64 ((w64 (x989 - vt721)) + n7)) n7) < vt714))) (v := true) (by kernel_rfl) (decide_eq_true c1036) ?_
        refine condT (by kernel_rfl) ?_
        refine wp_region_lit ?_
        have HS1037 := HS1029.u1
        have hq_ := bind_some h; clear h; obtain ⟨⟨vt1038, vt1039⟩, hc1040, h⟩ := hq_
        refine seqL2 (by kernel_rfl) ?_
        refine seqK rfl (does_call (f := 25) (args := #[.pointer (some ⟨b1, 0, none⟩), .int .i64 (-900), .int .i64 900]) (by kernel_rfl) (spymake_Stream_Range.calls k b1 A4 c5 (⟨s3.L, vt1018⟩ : S_Stream) (-900) 900 HS1037 (HR6.mono (L17.trans (L24.trans (L38.trans (L44.trans (L653.trans (L691.trans (L718.trans (L725.trans (L981.trans (L1014.trans L1021))))))))))) vt1038 vt1039 hc1040) ?_)
        rintro _ W1043 ⟨f1041, rfl, L1042, HS1044⟩
        refine ⟨_, rfl, ?_⟩
        have hq_ := bind_some h; clear h; obtain ⟨vt1045, hc1046, h⟩ := hq_
        refine seqL1 (by kernel_rfl) ?_
        refine seqK rfl (does_call (f := 30) (args := #[.int .i64 (w64 (vt687 + vt1038))]) (by kernel_rfl) (bound_Exact_Quanta.calls k (w64 (vt687 + vt1038)) HS1044 vt1045 hc1046) ?_)
        rintro _ W1049 ⟨f1047, rfl, L1048, HS1050⟩
        refine ⟨_, rfl, ?_⟩
        have HS1051 := HS1050.u1
        refine seqK rfl (does_store (n := 3) (vs := [.int .i64 vt1045.Lo, .int .i64 vt1045.Hi, .bool vt1045.Unknown]) (cs' := #[.int .i64 vt1045.Lo, .int .i64 vt1045.Hi, .bool vt1045.Unknown]) rfl (by kernel_rfl) (by kernel_rfl : _ = Value.pointer (some ⟨b1024, 0, none⟩)) (by kernel_rfl : _ = Value.agg #[.int .i64 vt1045.Lo, .int .i64 vt1045.Hi, .bool vt1045.Unknown]) rfl rfl (by intro u_ hu_; simp only [List.mem_cons, List.not_mem_nil, or_false] at hu_; rcases hu_ with rfl | rfl | rfl <;> rfl) HS1051 (Nat.le_of_ble_eq_true rfl) (by kernel_rfl) ?_)
        intro W1052 HS1053
        refine wpList_nil ?_
        exact J1085 f1047 vt1045.Lo vt1045.Hi vt1045.Unknown vt1039 (fun i_ => [Value.bool true, Value.int .i64 vt687, Value.pointer (some ⟨b1, 0, none⟩), Value.int .i64 vt1038, Value.int .i64 (w64 (vt687 + vt1038)), Value.agg #[.int .i64 vt1045.Lo, .int .i64 vt1045.Hi, .bool vt1045.Unknown], (j984 27), (j984 28), (j984 29), (j984 30)].getD i_ undef) W1052 _ (L1042.trans L1048) h HS1053 (by kernel_rfl)
      · have c1036 : ¬ ((Int.tmod (w64 ((w64 (x989 - vt721)) + n7)) n7) < vt714) := c1036
        refine wpRwI 67 (x := (decide ((Int.tmod (w64 ((w64 (x989 - vt721)) + n7)) n7) < vt714))) (v := false) (by kernel_rfl) (decide_eq_false c1036) ?_
        refine condF (by kernel_rfl) ?_
        refine wp_seq_k (fun K1054 hK1055 => ?_)
        refine wp_region_lit ?_
        have HS1056 := HS1029.u1
        have hq_ := bind_some h; clear h; obtain ⟨⟨vt1057, vt1058⟩, hc1059, h⟩ := hq_
        refine seqL1 (by kernel_rfl) ?_
        refine seqK rfl (does_call (f := 12) (args := #[.pointer (some ⟨b1, 0, none⟩), .int .i64 9]) (by kernel_rfl) (spymake_Stream_Next.calls k b1 A4 c5 (⟨s3.L, vt1018⟩ : S_Stream) 9 HS1056 (HR6.mono (L17.trans (L24.trans (L38.trans (L44.trans (L653.trans (L691.trans (L718.trans (L725.trans (L981.trans (L1014.trans L1021))))))))))) vt1057 vt1058 hc1059) ?_)
        rintro _ W1062 ⟨f1060, rfl, L1061, HS1063⟩
        refine ⟨_, rfl, ?_⟩
        refine seqS1 (a' := ⟨#[.pointer (some ⟨b1, 0, none⟩), iV n7, iV vf8, uV, uV, uV, .slice none 0 0, .slice none 0 0, iV vt13, iV vt20, .slice A705 (truth657 ++ ([vt687] : List Int)).length c706, .slice A47 l985.length c48, iV vt687, iV vt714, iV vt721, iV x989, .pointer (some ⟨b1024, 0, none⟩), .pointer (some ⟨b1, 0, none⟩), iV vt13, .pointer (some ⟨b1, 0, none⟩), iV vt20, iV vt13, iV vt20, .agg #[iV vt13, iV vt20, .slice none 0 0], .slice (some ⟨b31, 0, none⟩) ([(⟨vt13, vt20, ([] : List S_Bound)⟩ : S_Cells)] : List S_Cells).length 1, iV n7, .slice A47 vt41.length c48, iV vt13, iV vt20, iV (w64 (vt13 * vt20)), iV x667, .bool true, .pointer (some ⟨b1, 0, none⟩), iV vt687, .slice A658 truth657.length c659, iV vt687, .slice (some ⟨b696, 0, none⟩) ([vt687] : List Int).length 1, .slice A705 (truth657 ++ ([vt687] : List Int)).length c706, .pointer (some ⟨b1, 0, none⟩), iV vf8, iV (w64 (vf8 + 1)), iV vt714, .pointer (some ⟨b1, 0, none⟩), iV n7, iV vt721, .slice A47 l663.length c48, iV (l663.length : Int), iV x989, .bool true, iV x989, iV vt687, .pointer (some ⟨b1, 0, none⟩), iV vt1010, iV (w64 (vt687 - vt1010)), iV vt687, .pointer (some ⟨b1, 0, none⟩), iV vt1017, iV (w64 (vt687 + vt1017)), .agg #[iV (w64 (vt687 - vt1010)), iV (w64 (vt687 + vt1017)), .bool false], iV x989, iV vt721, iV (w64 (x989 - vt721)), iV n7, iV (w64 ((w64 (x989 - vt721)) + n7)), iV n7, iV (Int.tmod (w64 ((w64 (x989 - vt721)) + n7)) n7), iV vt714, .bool false, (j984 22), (j984 23), (j984 24), (j984 25), (j984 26), .pointer (some ⟨b1, 0, none⟩), iV vt1057, .bool (vt1057 == 0), (j984 30), (j984 31), (j984 32), (j984 33), (j984 34), (j984 35), (j984 36), (j984 37), (j984 38), (j984 39), (j984 40), (j984 41), (j984 42), (j984 43), (j984 44), (j656 65), uV, uV], []⟩) (by kernel_rfl) ?_
        refine wpList_nil ?_
        refine hK1055 _ _ ?_
        have hq_ := ite_some h; clear h; rcases hq_ with ⟨c1065, h⟩ | ⟨c1065, h⟩
        · have c1065 : vt1057 = 0 := c1065
          refine wpRwI 75 (x := (vt1057 == 0)) (v := true) (by kernel_rfl) (beq_iff_eq.mpr c1065) ?_
          refine condT (by kernel_rfl) ?_
          refine wp_region_lit ?_
          have hq_ := bind_some h; clear h; obtain ⟨vt1066, hc1067, h⟩ := hq_
          refine seqK rfl (does_call (f := 32) (args := #[]) (by kernel_rfl) (bound_None_Quanta.calls k  HS1063 vt1066 hc1067) ?_)
          rintro _ W1070 ⟨f1068, rfl, L1069, HS1071⟩
          refine ⟨_, rfl, ?_⟩
          have HS1072 := HS1071.u1
          refine seqK rfl (does_store (n := 3) (vs := [.int .i64 vt1066.Lo, .int .i64 vt1066.Hi, .bool vt1066.Unknown]) (cs' := #[.int .i64 vt1066.Lo, .int .i64 vt1066.Hi, .bool vt1066.Unknown]) rfl (by kernel_rfl) (by kernel_rfl : _ = Value.pointer (some ⟨b1024, 0, none⟩)) (by kernel_rfl : _ = Value.agg #[.int .i64 vt1066.Lo, .int .i64 vt1066.Hi, .bool vt1066.Unknown]) rfl rfl (by intro u_ hu_; simp only [List.mem_cons, List.not_mem_nil, or_false] at hu_; rcases hu_ with rfl | rfl | rfl <;> rfl) HS1072 (Nat.le_of_ble_eq_true rfl) (by kernel_rfl) ?_)
          intro W1073 HS1074
          refine wpList_nil ?_
          exact J1085 f1068 vt1066.Lo vt1066.Hi vt1066.Unknown vt1058 (fun i_ => [Value.bool false, (j984 22), (j984 23), (j984 24), (j984 25), (j984 26), Value.pointer (some ⟨b1, 0, none⟩), Value.int .i64 vt1057, Value.bool true, Value.agg #[.int .i64 vt1066.Lo, .int .i64 vt1066.Hi, .bool vt1066.Unknown]].getD i_ undef) W1073 _ (L1061.trans L1069) h HS1074 (by kernel_rfl)
        · have c1065 : ¬ (vt1057 = 0) := c1065
          refine wpRwI 75 (x := (vt1057 == 0)) (v := false) (by kernel_rfl) (beq_eq_false_iff_ne.mpr c1065) ?_
          refine condF (by kernel_rfl) ?_
          refine wp_skip ?_
          have HS1087 := HS1063.u3
          have HS1088 := HS1087.u3
          have HS1089 := HS1088.u2
          have HS1090 := HS1089.u3
          exact J1085 f1060 (w64 (vt687 - vt1010)) (w64 (vt687 + vt1017)) false vt1058 (fun i_ => [Value.bool false, (j984 22), (j984 23), (j984 24), (j984 25), (j984 26), Value.pointer (some ⟨b1, 0, none⟩), Value.int .i64 vt1057, Value.bool false, (j984 30)].getD i_ undef) W1062 _ L1061 h HS1090 (by kernel_rfl)
    · have c996 : ¬ (x989 < (l663.length : Int)) := c996
      refine wpRwI 48 (x := (decide (x989 < (l663.length : Int)))) (v := false) (by kernel_rfl) (decide_eq_false c996) ?_
      refine condF (by kernel_rfl) ?_
      refine wp_exit ?_
      refine hx731 _ _ ?_
      exact J1233 f980 s986 l985 x990 (fun i_ => [(j984 0), (j984 1), Value.slice A47 l663.length c48, Value.int .i64 x989, Value.bool false, (j984 3), (j984 4), (j984 5), (j984 6), (j984 7), (j984 8), (j984 9), (j984 10), (j984 11), (j984 12), (j984 13), (j984 14), (j984 15), (j984 16), (j984 17), (j984 18), (j984 19), (j984 20), (j984 21), (j984 22), (j984 23), (j984 24), (j984 25), (j984 26), (j984 27), (j984 28), (j984 29), (j984 30), (j984 31), (j984 32), (j984 33), (j984 34), (j984 35), (j984 36), (j984 37), (j984 38), (j984 39), (j984 40), (j984 41), (j984 42), (j984 43), (j984 44)].getD i_ undef) W982 _ L981 h HS983 HO987 HL988 (by kernel_rfl)
  · have c674 : ¬ (x667 < (w64 (vt13 * vt20))) := c674
    refine wpRwI 31 (x := (decide (x667 < (w64 (vt13 * vt20))))) (v := false) (by kernel_rfl) (decide_eq_false c674) ?_
    refine condF (by kernel_rfl) ?_
    refine wp_exit ?_
    refine hx57 _ _ ?_
    exact J1256 f652 A658 c659 s660 s664 truth657 l663 x668 (fun i_ => [(j656 0), (j656 1), (j656 2), (j656 3), (j656 4), Value.slice A47 vt41.length c48, Value.int .i64 x667, Value.bool false, (j656 6), (j656 7), (j656 8), (j656 9), (j656 10), (j656 11), (j656 12), (j656 13), (j656 14), (j656 15), (j656 16), (j656 17), (j656 18), (j656 19), (j656 20), (j656 21), (j656 22), (j656 23), (j656 24), (j656 25), (j656 26), (j656 27), (j656 28), (j656 29), (j656 30), (j656 31), (j656 32), (j656 33), (j656 34), (j656 35), (j656 36), (j656 37), (j656 38), (j656 39), (j656 40), (j656 41), (j656 42), (j656 43), (j656 44), (j656 45), (j656 46), (j656 47), (j656 48), (j656 49), (j656 50), (j656 51), (j656 52), (j656 53), (j656 54), (j656 55), (j656 56), (j656 57), (j656 58), (j656 59), (j656 60), (j656 61), (j656 62), (j656 63), (j656 64), (j656 65)].getD i_ undef) W654 _ L653 h HS655 HO661 HO665 HL666 (by kernel_rfl)

end Go.Sp.U4
