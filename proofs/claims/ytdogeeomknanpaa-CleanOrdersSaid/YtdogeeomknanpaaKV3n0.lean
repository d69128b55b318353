import Derived.Test.YtdogeeomknanpaaProg
import Derived.Test.YtdogeeomknanpaaSpCopy
import Derived.Test.YtdogeeomknanpaaFV3
namespace Go.Sp.V3
open Go Go.Sp Go.Proofs
set_option linter.unusedVariables false
attribute [local irreducible] wpList AnyL Code.wp Calls Does
def ty_Stream : Ty S_Stream where
  sz := 2
  rep := fun f cs x => ∃ (A0 : Option Addr) (c0 : Nat), cs = [.slice A0 x.L.length c0, .int .i64 x.vat] ∧ SlR (tInt .i64) f A0 c0 x.L
  pos := by decide
  len := by rintro f cs x ⟨A0, c0, rfl, h0⟩; rfl
  mono := by rintro f g cs x hl ⟨A0, c0, rfl, h0⟩; exact ⟨A0, c0, rfl, h0.mono hl⟩
  one := by
    rintro f cs x ⟨A0, c0, rfl, h0⟩ v hv
    simp only [List.mem_cons, List.not_mem_nil, or_false] at hv
    rcases hv with rfl | rfl <;> rfl
def ty_Bound : Ty S_Bound where
  sz := 3
  rep := fun f cs x => cs = [.int .i64 x.Lo, .int .i64 x.Hi, .bool x.Unknown]
  pos := by decide
  len := by rintro f cs x rfl; rfl
  mono := by rintro f g cs x hl rfl; exact rfl
  one := by
    rintro f cs x rfl v hv
    simp only [List.mem_cons, List.not_mem_nil, or_false] at hv
    rcases hv with rfl | rfl | rfl <;> rfl
def ty_Cells : Ty S_Cells where
  sz := 3
  rep := fun f cs x => ∃ (A2 : Option Addr) (c2 : Nat), cs = [.int .i64 x.W, .int .i64 x.H, .slice A2 x.At.length c2] ∧ SlR ty_Bound f A2 c2 x.At
  pos := by decide
  len := by rintro f cs x ⟨A2, c2, rfl, h2⟩; rfl
  mono := by rintro f g cs x hl ⟨A2, c2, rfl, h2⟩; exact ⟨A2, c2, rfl, h2.mono hl⟩
  one := by
    rintro f cs x ⟨A2, c2, rfl, h2⟩ v hv
    simp only [List.mem_cons, List.not_mem_nil, or_false] at hv
    rcases hv with rfl | rfl | rfl <;> rfl
theorem inf34 : Inf Try.prog 34 3 40 (.agg #[.int .i64 0, .int .i64 0, .slice none 0 0]) := .mk' (by kernel_rfl) rfl
theorem inf42 : Inf Try.prog 42 1 8 (.int .i64 0) := .mk' (by kernel_rfl) rfl
theorem inf44 : Inf Try.prog 44 3 24 (.agg #[.int .i64 0, .int .i64 0, .bool false]) := .mk' (by kernel_rfl) rfl

set_option maxRecDepth 100000 in
set_option maxHeartbeats 4000000 in
theorem spymake_Below.calls (k : Nat)  (x1 : Int) (n2 : Int) {t w : World} {f : FM} {H : List Seg} (HS : St t w f (H)) (r1 : Int) (h : spymake_Below k x1 n2 = some r1) :
    Calls Try.prog 10 #[.int .i64 x1, .int .i64 n2] w (fun e w' => ∃ (g : FM), e = .returned (Value.int .i64 r1) ∧ FM.le f g ∧ St t w' g (H)) := by
  unfold spymake_Below at h
  refine enter Try.func10 rfl (tm := #[.int .i64 x1, .int .i64 n2, undef, undef, undef, undef, undef, undef, undef, undef, undef, undef, undef, undef, undef, undef]) (by kernel_rfl) ?_
  intro B hret hnor hnp
  refine wp_seq_k (fun K3 hK4 => ?_)
  refine wp_region_lit ?_
  refine seqS1 (a' := ⟨#[.int .i64 x1, .int .i64 n2, undef, undef, .int .i64 0, undef, undef, undef, undef, undef, undef, undef, undef, undef, undef, undef], []⟩) (by kernel_rfl) ?_
  refine wpList_nil ?_
  refine hK4 _ _ ?_
  refine wp_seq_k (fun K5 hK6 => ?_)
  refine wp_seq_k (fun K7 hK8 => ?_)
  refine wp_region_lit ?_
  refine seqS2 (a' := ⟨#[.int .i64 x1, .int .i64 n2, undef, undef, .int .i64 0, .int .i64 n2, .bool (decide (n2 < 1)), undef, undef, undef, undef, undef, undef, undef, undef, undef], []⟩) (by kernel_rfl) ?_
  refine wpList_nil ?_
  refine hK8 _ _ ?_
  have hq_ := ite_some h; clear h; rcases hq_ with ⟨c10, h⟩ | ⟨c10, h⟩
  · have c10 : n2 < 1 := c10
    refine wpRwI 6 (x := (decide (n2 < 1))) (v := true) (by kernel_rfl) (decide_eq_true c10) ?_
    refine condT (by kernel_rfl) ?_
    refine wp_seq_k (fun K11 hK12 => ?_)
    refine wp_region_lit ?_
    refine seqS1 (a' := ⟨#[.int .i64 x1, .int .i64 n2, undef, undef, .int .i64 0, .int .i64 n2, .bool true, undef, undef, undef, undef, undef, undef, undef, undef, undef], []⟩) (by kernel_rfl) ?_
    refine wpList_nil ?_
    refine hK12 _ _ ?_
    refine wp_ret ?_
    refine hret _ _ ?_
    refine ends_still (v := Value.int .i64 0) (by kernel_rfl) (by kernel_rfl) ?_
    injection h with h
    subst h
    exact ⟨f, rfl, FM.le.refl _, HS⟩
  · have c10 : ¬ (n2 < 1) := c10
    refine wpRwI 6 (x := (decide (n2 < 1))) (v := false) (by kernel_rfl) (decide_eq_false c10) ?_
    refine condF (by kernel_rfl) ?_
    refine wp_skip ?_
    refine hK6 _ _ ?_
    refine wp_seq_k (fun K13 hK14 => ?_)
    refine wp_region_lit ?_
    have hq_ := guard_some h; clear h; obtain ⟨c15, h⟩ := hq_
    have c15 : ¬ (n2 = 0) := c15
    refine seqL2 (by kernel_rfl) ?_
    refine seqK rfl (does_run (run_rem rfl (by kernel_rfl : _ = Value.int .i64 x1) (by kernel_rfl : _ = Value.int .i64 n2) c15 w) ?_)
    refine seqS1 (a' := ⟨#[.int .i64 (Int.tmod x1 n2), .int .i64 n2, undef, undef, .int .i64 0, .int .i64 n2, .bool false, .int .i64 x1, .int .i64 n2, .int .i64 (Int.tmod x1 n2), undef, undef, undef, undef, undef, undef], []⟩) (by kernel_rfl) ?_
    refine wpList_nil ?_
    refine hK14 _ _ ?_
    refine wp_seq_k (fun K16 hK17 => ?_)
    refine wp_seq_k (fun K18 hK19 => ?_)
    refine wp_region_lit ?_
    refine seqS2 (a' := ⟨#[.int .i64 (Int.tmod x1 n2), .int .i64 n2, undef, undef, .int .i64 0, .int .i64 n2, .bool false, .int .i64 x1, .int .i64 n2, .int .i64 (Int.tmod x1 n2), .int .i64 (Int.tmod x1 n2), .bool (decide ((Int.tmod x1 n2) < 0)), undef, undef, undef, undef], []⟩) (by kernel_rfl) ?_
    refine wpList_nil ?_
    refine hK19 _ _ ?_
    have hq_ := ite_some h; clear h; rcases hq_ with ⟨c21, h⟩ | ⟨c21, h⟩
    · have c21 : (Int.tmod x1 n2) < 0 := c21
      refine wpRwI 11 (x := (decide ((Int.tmod x1 n2) < 0))) (v := true) (by kernel_rfl) (decide_eq_true c21) ?_
      refine condT (by kernel_rfl) ?_
      refine wp_region_lit ?_
      refine seqS4 (a' := ⟨#[.int .i64 (w64 ((Int.tmod x1 n2) + n2)), .int .i64 n2, undef, undef, .int .i64 0, .int .i64 n2, .bool false, .int .i64 x1, .int .i64 n2, .int .i64 (Int.tmod x1 n2), .int .i64 (Int.tmod x1 n2), .bool true, .int .i64 (Int.tmod x1 n2), .int .i64 n2, .int .i64 (w64 ((Int.tmod x1 n2) + n2)), undef], []⟩) (by kernel_rfl) ?_
      refine wpList_nil ?_
      refine hK17 _ _ ?_
      refine wp_seq_k (fun K22 hK23 => ?_)
      refine wp_region_lit ?_
      refine seqS2 (a' := ⟨#[.int .i64 (w64 ((Int.tmod x1 n2) + n2)), .int .i64 n2, undef, undef, .int .i64 (w64 ((Int.tmod x1 n2) + n2)), .int .i64 n2, .bool false, .int .i64 x1, .int .i64 n2, .int .i64 (Int.tmod x1 n2), .int .i64 (Int.tmod x1 n2), .bool true, .int .i64 (Int.tmod x1 n2), .int .i64 n2, .int .i64 (w64 ((Int.tmod x1 n2) + n2)), .int .i64 (w64 ((Int.tmod x1 n2) + n2))], []⟩) (by kernel_rfl) ?_
      refine wpList_nil ?_
      refine hK23 _ _ ?_
      refine wp_ret ?_
      refine hret _ _ ?_
      refine ends_still (v := Value.int .i64 (w64 ((Int.tmod x1 n2) + n2))) (by kernel_rfl) (by kernel_rfl) ?_
      injection h with h
      subst h
      exact ⟨f, rfl, FM.le.refl _, HS⟩
    · have c21 : ¬ ((Int.tmod x1 n2) < 0) := c21
      refine wpRwI 11 (x := (decide ((Int.tmod x1 n2) < 0))) (v := false) (by kernel_rfl) (decide_eq_false c21) ?_
      refine condF (by kernel_rfl) ?_
      refine wp_skip ?_
      refine hK17 _ _ ?_
      refine wp_seq_k (fun K24 hK25 => ?_)
      refine wp_region_lit ?_
      refine seqS2 (a' := ⟨#[.int .i64 (Int.tmod x1 n2), .int .i64 n2, undef, undef, .int .i64 (Int.tmod x1 n2), .int .i64 n2, .bool false, .int .i64 x1, .int .i64 n2, .int .i64 (Int.tmod x1 n2), .int .i64 (Int.tmod x1 n2), .bool false, undef, undef, undef, .int .i64 (Int.tmod x1 n2)], []⟩) (by kernel_rfl) ?_
      refine wpList_nil ?_
      refine hK25 _ _ ?_
      refine wp_ret ?_
      refine hret _ _ ?_
      refine ends_still (v := Value.int .i64 (Int.tmod x1 n2)) (by kernel_rfl) (by kernel_rfl) ?_
      injection h with h
      subst h
      exact ⟨f, rfl, FM.le.refl _, HS⟩

set_option maxRecDepth 100000 in
set_option maxHeartbeats 4000000 in
theorem spymake_Stream_Next.calls (k : Nat) (b1 : Nat) (A4 : Option Addr) (c5 : Nat) (s3 : S_Stream) (n7 : Int) {t w : World} {f : FM} {H : List Seg} (HS : St t w f ([(b1, .cells #[.slice A4 s3.L.length c5, .int .i64 s3.vat] 25 (0, 0))] :: H)) (HR6 : SlR (tInt .i64) f A4 c5 s3.L) (r1 : Int) (r2 : Int) (h : spymake_Stream_Next k s3 n7 = some (r1, r2)) :
    Calls Try.prog 12 #[.pointer (some ⟨b1, 0, none⟩), .int .i64 n7] w (fun e w' => ∃ (g : FM), e = .returned (Value.int .i64 r1) ∧ FM.le f g ∧ St t w' g ([(b1, .cells #[.slice A4 s3.L.length c5, .int .i64 r2] 25 (0, 0))] :: H)) := by
  unfold spymake_Stream_Next at h
  refine enter Try.func12 rfl (tm := #[.pointer (some ⟨b1, 0, none⟩), .int .i64 n7, undef, undef, undef, undef, undef, undef, undef, undef, undef, undef, undef, undef, undef, undef, undef, undef, undef, undef, undef, undef, undef, undef, undef, undef, undef, undef, undef, undef, undef, undef, undef, undef, undef, undef, undef, undef, undef, undef, undef, undef, undef, undef, undef, undef, undef, undef, undef, undef, undef, undef, undef, undef, undef, undef, undef, undef, undef, undef, undef, undef, undef, undef]) (by kernel_rfl) ?_
  intro B hret hnor hnp
  refine wp_seq_k (fun K8 hK9 => ?_)
  refine wp_region_lit ?_
  refine seqS1 (a' := ⟨#[.pointer (some ⟨b1, 0, none⟩), .int .i64 n7, undef, undef, .int .i64 0, undef, undef, undef, undef, undef, undef, undef, undef, undef, undef, undef, undef, undef, undef, undef, undef, undef, undef, undef, undef, undef, undef, undef, undef, undef, undef, undef, undef, undef, undef, undef, undef, undef, undef, undef, undef, undef, undef, undef, undef, undef, undef, undef, undef, undef, undef, undef, undef, undef, undef, undef, undef, undef, undef, undef, undef, undef, undef, undef], []⟩) (by kernel_rfl) ?_
  refine wpList_nil ?_
  refine hK9 _ _ ?_
  refine wp_seq_k (fun K10 hK11 => ?_)
  refine wp_region_lit ?_
  refine seqL3 (by kernel_rfl) ?_
  refine seqK rfl (does_run (run_load rfl Try.underlying3 rfl (by kernel_rfl : _ = Value.pointer (some ⟨b1, 1, none⟩)) (HS.cell 1)) ?_)
  refine seqL3 (by kernel_rfl) ?_
  refine seqK rfl (does_store (n := 1) (vs := [.int .i64 (w64 (s3.vat + 1))]) (cs' := #[.slice A4 s3.L.length c5, .int .i64 (w64 (s3.vat + 1))]) rfl (by kernel_rfl) (by kernel_rfl : _ = Value.pointer (some ⟨b1, 1, none⟩)) (by kernel_rfl : _ = Value.int .i64 (w64 (s3.vat + 1))) rfl rfl (by intro u_ hu_; simp only [List.mem_cons, List.not_mem_nil, or_false] at hu_; subst hu_; rfl) HS (Nat.le_of_ble_eq_true rfl) (by kernel_rfl) ?_)
  intro W12 HS13
  refine wpList_nil ?_
  refine hK11 _ _ ?_
  refine wp_seq_k (fun K14 hK15 => ?_)
  refine wp_seq_k (fun K16 hK17 => ?_)
  refine wp_region_lit ?_
  refine seqL3 (by kernel_rfl) ?_
  refine seqK rfl (does_run (run_load rfl Try.underlying22 rfl (by kernel_rfl : _ = Value.pointer (some ⟨b1, 0, none⟩)) (HS13.cell 0)) ?_)
  refine seqS2 (a' := ⟨#[.pointer (some ⟨b1, 0, none⟩), .int .i64 n7, undef, undef, .int .i64 0, undef, undef, .pointer (some ⟨b1, 0, none⟩), .pointer (some ⟨b1, 0, none⟩), .pointer (some ⟨b1, 1, none⟩), .int .i64 s3.vat, .int .i64 (w64 (s3.vat + 1)), .pointer (some ⟨b1, 0, none⟩), .pointer (some ⟨b1, 1, none⟩), .pointer (some ⟨b1, 0, none⟩), .pointer (some ⟨b1, 0, none⟩), .pointer (some ⟨b1, 0, none⟩), .slice A4 s3.L.length c5, .int .i64 (s3.L.length : Int), .bool ((s3.L.length : Int) == 0), undef, undef, undef, undef, undef, undef, undef, undef, undef, undef, undef, undef, undef, undef, undef, undef, undef, undef, undef, undef, undef, undef, undef, undef, undef, undef, undef, undef, undef, undef, undef, undef, undef, undef, undef, undef, undef, undef, undef, undef, undef, undef, undef, undef], []⟩) (by kernel_rfl) ?_
  refine wpList_nil ?_
  refine hK17 _ _ ?_
  have hq_ := ite_some h; clear h; rcases hq_ with ⟨c19, h⟩ | ⟨c19, h⟩
  · have c19 : (s3.L.length : Int) = 0 := c19
    refine wpRwI 19 (x := ((s3.L.length : Int) == 0)) (v := true) (by kernel_rfl) (beq_iff_eq.mpr c19) ?_
    refine condT (by kernel_rfl) ?_
    refine wp_seq_k (fun K20 hK21 => ?_)
    refine wp_region_lit ?_
    refine seqL3 (by kernel_rfl) ?_
    refine seqK rfl (does_run (run_load rfl Try.underlying3 rfl (by kernel_rfl : _ = Value.pointer (some ⟨b1, 1, none⟩)) (HS13.cell 1)) ?_)
    have hq_ := bind_some h; clear h; obtain ⟨vt22, hc23, h⟩ := hq_
    refine seqL2 (by kernel_rfl) ?_
    refine seqK rfl (does_call (f := 10) (args := #[.int .i64 (w64 ((w64 (s3.vat + 1)) * 7919)), .int .i64 n7]) (by kernel_rfl) (spymake_Below.calls k (w64 ((w64 (s3.vat + 1)) * 7919)) n7 HS13 vt22 hc23) ?_)
    rintro _ W26 ⟨f24, rfl, L25, HS27⟩
    refine ⟨_, rfl, ?_⟩
    refine seqS1 (a' := ⟨#[.pointer (some ⟨b1, 0, none⟩), .int .i64 n7, undef, undef, .int .i64 vt22, undef, undef, .pointer (some ⟨b1, 0, none⟩), .pointer (some ⟨b1, 0, none⟩), .pointer (some ⟨b1, 1, none⟩), .int .i64 s3.vat, .int .i64 (w64 (s3.vat + 1)), .pointer (some ⟨b1, 0, none⟩), .pointer (some ⟨b1, 1, none⟩), .pointer (some ⟨b1, 0, none⟩), .pointer (some ⟨b1, 0, none⟩), .pointer (some ⟨b1, 0, none⟩), .slice A4 s3.L.length c5, .int .i64 (s3.L.length : Int), .bool true, .pointer (some ⟨b1, 0, none⟩), .pointer (some ⟨b1, 0, none⟩), .pointer (some ⟨b1, 1, none⟩), .int .i64 (w64 (s3.vat + 1)), .int .i64 (w64 ((w64 (s3.vat + 1)) * 7919)), .int .i64 n7, .int .i64 vt22, undef, undef, undef, undef, undef, undef, undef, undef, undef, undef, undef, undef, undef, undef, undef, undef, undef, undef, undef, undef, undef, undef, undef, undef, undef, undef, undef, undef, undef, undef, undef, undef, undef, undef, undef, undef, undef], []⟩) (by kernel_rfl) ?_
    refine wpList_nil ?_
    refine hK21 _ _ ?_
    refine wp_ret ?_
    refine hret _ _ ?_
    refine ends_still (v := Value.int .i64 vt22) (by kernel_rfl) (by kernel_rfl) ?_
    injection h with h
    injection h with h0_ h
    subst h0_ h
    exact ⟨f24, rfl, L25, HS27⟩
  · have c19 : ¬ ((s3.L.length : Int) = 0) := c19
    refine wpRwI 19 (x := ((s3.L.length : Int) == 0)) (v := false) (by kernel_rfl) (beq_eq_false_iff_ne.mpr c19) ?_
    refine condF (by kernel_rfl) ?_
    refine wp_skip ?_
    refine hK15 _ _ ?_
    refine wp_seq_k (fun K28 hK29 => ?_)
    refine heldG (S := Sg t f ([(b1, .cells #[.slice A4 s3.L.length c5, .int .i64 (w64 (s3.vat + 1))] 25 (0, 0))] :: H) []) (n := 12) (by kernel_rfl) rfl HS13 ?_
    intro W30 HS31
    refine takeG [0, 1, 2] (n := 12) (fuel := 9) (l' := #[true, true, true, false, false, false, false, false, false, false, false, false]) (a' := ⟨#[.pointer (some ⟨b1, 0, none⟩), .int .i64 n7, undef, undef, .int .i64 0, undef, undef, .pointer (some ⟨b1, 0, none⟩), .pointer (some ⟨b1, 0, none⟩), .pointer (some ⟨b1, 1, none⟩), .int .i64 s3.vat, .int .i64 (w64 (s3.vat + 1)), .pointer (some ⟨b1, 0, none⟩), .pointer (some ⟨b1, 1, none⟩), .pointer (some ⟨b1, 0, none⟩), .pointer (some ⟨b1, 0, none⟩), .pointer (some ⟨b1, 0, none⟩), .slice A4 s3.L.length c5, .int .i64 (s3.L.length : Int), .bool false, undef, undef, undef, undef, undef, undef, undef, .pointer (some ⟨b1, 0, none⟩), .pointer (some ⟨b1, 0, none⟩), .pointer (some ⟨b1, 1, none⟩), undef, undef, undef, undef, undef, undef, undef, undef, undef, undef, undef, undef, undef, undef, undef, undef, undef, undef, undef, undef, undef, undef, undef, undef, undef, undef, undef, undef, undef, undef, undef, undef, undef, undef], []⟩) rfl (by kernel_rfl) (by kernel_rfl) (by kernel_rfl) hnp (Sg.g0 (Sx.of [] (FM.le.refl _) HS31)) ?_
    refine takeGQ 3 [] rfl (by kernel_rfl) (by kernel_rfl) (by kernel_rfl) (by kernel_rfl) (by kernel_rfl) (by kernel_rfl) hnp (Sg.g0 (Sx.of [] (FM.le.refl _) HS31)) (fun w_ hw_ => by obtain ⟨g_, hl_, hS_⟩ := hw_.st; exact run_load rfl Try.underlying3 rfl (by kernel_rfl : _ = Value.pointer (some ⟨b1, 1, none⟩)) (hS_.cell 1)) ?_
    refine takeG [4, 5, 6, 7] (n := 8) (fuel := 4) (l' := #[true, true, true, true, true, true, true, true, false, false, false, false]) (a' := ⟨#[.pointer (some ⟨b1, 0, none⟩), .int .i64 n7, undef, undef, .int .i64 0, undef, undef, .pointer (some ⟨b1, 0, none⟩), .pointer (some ⟨b1, 0, none⟩), .pointer (some ⟨b1, 1, none⟩), .int .i64 s3.vat, .int .i64 (w64 (s3.vat + 1)), .pointer (some ⟨b1, 0, none⟩), .pointer (some ⟨b1, 1, none⟩), .pointer (some ⟨b1, 0, none⟩), .pointer (some ⟨b1, 0, none⟩), .pointer (some ⟨b1, 0, none⟩), .slice A4 s3.L.length c5, .int .i64 (s3.L.length : Int), .bool false, undef, undef, undef, undef, undef, undef, undef, .pointer (some ⟨b1, 0, none⟩), .pointer (some ⟨b1, 0, none⟩), .pointer (some ⟨b1, 1, none⟩), .int .i64 (w64 (s3.vat + 1)), .int .i64 (w64 ((w64 (s3.vat + 1)) - 1)), .pointer (some ⟨b1, 0, none⟩), .pointer (some ⟨b1, 0, none⟩), .pointer (some ⟨b1, 0, none⟩), undef, undef, undef, undef, undef, undef, undef, undef, undef, undef, undef, undef, undef, undef, undef, undef, undef, undef, undef, undef, undef, undef, undef, undef, undef, undef, undef, undef, undef], []⟩) rfl (by kernel_rfl) (by kernel_rfl) (by kernel_rfl) hnp (Sg.g0 (Sx.of [] (FM.le.refl _) HS31)) ?_
    refine takeGQ 8 [] rfl (by kernel_rfl) (by kernel_rfl) (by kernel_rfl) (by kernel_rfl) (by kernel_rfl) (by kernel_rfl) hnp (Sg.g0 (Sx.of [] (FM.le.refl _) HS31)) (fun w_ hw_ => by obtain ⟨g_, hl_, hS_⟩ := hw_.st; exact run_load rfl Try.underlying22 rfl (by kernel_rfl : _ = Value.pointer (some ⟨b1, 0, none⟩)) (hS_.cell 0)) ?_
    have hq_ := guard_some h; clear h; obtain ⟨c32, h⟩ := hq_
    have c32 : ¬ ((s3.L.length : Int) = 0) := c32
    refine takeG [9] (n := 3) (fuel := 2) (l' := #[true, true, true, true, true, true, true, true, true, true, false, false]) (a' := ⟨#[.pointer (some ⟨b1, 0, none⟩), .int .i64 n7, undef, undef, .int .i64 0, undef, undef, .pointer (some ⟨b1, 0, none⟩), .pointer (some ⟨b1, 0, none⟩), .pointer (some ⟨b1, 1, none⟩), .int .i64 s3.vat, .int .i64 (w64 (s3.vat + 1)), .pointer (some ⟨b1, 0, none⟩), .pointer (some ⟨b1, 1, none⟩), .pointer (some ⟨b1, 0, none⟩), .pointer (some ⟨b1, 0, none⟩), .pointer (some ⟨b1, 0, none⟩), .slice A4 s3.L.length c5, .int .i64 (s3.L.length : Int), .bool false, undef, undef, undef, undef, undef, undef, undef, .pointer (some ⟨b1, 0, none⟩), .pointer (some ⟨b1, 0, none⟩), .pointer (some ⟨b1, 1, none⟩), .int .i64 (w64 (s3.vat + 1)), .int .i64 (w64 ((w64 (s3.vat + 1)) - 1)), .pointer (some ⟨b1, 0, none⟩), .pointer (some ⟨b1, 0, none⟩), .pointer (some ⟨b1, 0, none⟩), .slice A4 s3.L.length c5, .int .i64 (s3.L.length : Int), undef, undef, undef, undef, undef, undef, undef, undef, undef, undef, undef, undef, undef, undef, undef, undef, undef, undef, undef, undef, undef, undef, undef, undef, undef, undef, undef], []⟩) rfl (by kernel_rfl) (by kernel_rfl) (by kernel_rfl) hnp (Sg.g0 (Sx.of [] (FM.le.refl _) HS31)) ?_
    refine takeGQ 10 [] rfl (by kernel_rfl) (by kernel_rfl) (by kernel_rfl) (by kernel_rfl) (by kernel_rfl) (by kernel_rfl) hnp (Sg.g0 (Sx.of [] (FM.le.refl _) HS31)) (fun w_ hw_ => by obtain ⟨g_, hl_, hS_⟩ := hw_.st; exact run_rem rfl (by kernel_rfl : _ = Value.int .i64 (w64 ((w64 (s3.vat + 1)) - 1))) (by kernel_rfl : _ = Value.int .i64 (s3.L.length : Int)) c32 w_) ?_
    refine takeG [11] (n := 1) (fuel := 0) (l' := #[true, true, true, true, true, true, true, true, true, true, true, true]) (a' := ⟨#[.pointer (some ⟨b1, 0, none⟩), .int .i64 n7, undef, undef, .int .i64 0, .int .i64 (Int.tmod (w64 ((w64 (s3.vat + 1)) - 1)) (s3.L.length : Int)), undef, .pointer (some ⟨b1, 0, none⟩), .pointer (some ⟨b1, 0, none⟩), .pointer (some ⟨b1, 1, none⟩), .int .i64 s3.vat, .int .i64 (w64 (s3.vat + 1)), .pointer (some ⟨b1, 0, none⟩), .pointer (some ⟨b1, 1, none⟩), .pointer (some ⟨b1, 0, none⟩), .pointer (some ⟨b1, 0, none⟩), .pointer (some ⟨b1, 0, none⟩), .slice A4 s3.L.length c5, .int .i64 (s3.L.length : Int), .bool false, undef, undef, undef, undef, undef, undef, undef, .pointer (some ⟨b1, 0, none⟩), .pointer (some ⟨b1, 0, none⟩), .pointer (some ⟨b1, 1, none⟩), .int .i64 (w64 (s3.vat + 1)), .int .i64 (w64 ((w64 (s3.vat + 1)) - 1)), .pointer (some ⟨b1, 0, none⟩), .pointer (some ⟨b1, 0, none⟩), .pointer (some ⟨b1, 0, none⟩), .slice A4 s3.L.length c5, .int .i64 (s3.L.length : Int), .int .i64 (Int.tmod (w64 ((w64 (s3.vat + 1)) - 1)) (s3.L.length : Int)), undef, undef, undef, undef, undef, undef, undef, undef, undef, undef, undef, undef, undef, undef, undef, undef, undef, undef, undef, undef, undef, undef, undef, undef, undef, undef], []⟩) rfl (by kernel_rfl) (by kernel_rfl) (by kernel_rfl) hnp (Sg.g0 (Sx.of [] (FM.le.refl _) HS31)) ?_
    refine doneG (by kernel_rfl) ?_ _
    refine hK29 _ _ ?_
    refine wp_seq_k (fun K33 hK34 => ?_)
    refine heldG (S := Sg t f ([(b1, .cells #[.slice A4 s3.L.length c5, .int .i64 (w64 (s3.vat + 1))] 25 (0, 0))] :: H) []) (n := 12) (by kernel_rfl) rfl HS31 ?_
    intro W35 HS36
    refine takeG [0, 1, 2] (n := 12) (fuel := 9) (l' := #[true, true, true, false, false, false, false, false, false, false, false, false]) (a' := ⟨#[.pointer (some ⟨b1, 0, none⟩), .int .i64 n7, undef, undef, .int .i64 0, .int .i64 (Int.tmod (w64 ((w64 (s3.vat + 1)) - 1)) (s3.L.length : Int)), undef, .pointer (some ⟨b1, 0, none⟩), .pointer (some ⟨b1, 0, none⟩), .pointer (some ⟨b1, 1, none⟩), .int .i64 s3.vat, .int .i64 (w64 (s3.vat + 1)), .pointer (some ⟨b1, 0, none⟩), .pointer (some ⟨b1, 1, none⟩), .pointer (some ⟨b1, 0, none⟩), .pointer (some ⟨b1, 0, none⟩), .pointer (some ⟨b1, 0, none⟩), .slice A4 s3.L.length c5, .int .i64 (s3.L.length : Int), .bool false, undef, undef, undef, undef, undef, undef, undef, .pointer (some ⟨b1, 0, none⟩), .pointer (some ⟨b1, 0, none⟩), .pointer (some ⟨b1, 1, none⟩), .int .i64 (w64 (s3.vat + 1)), .int .i64 (w64 ((w64 (s3.vat + 1)) - 1)), .pointer (some ⟨b1, 0, none⟩), .pointer (some ⟨b1, 0, none⟩), .pointer (some ⟨b1, 0, none⟩), .slice A4 s3.L.length c5, .int .i64 (s3.L.length : Int), .int .i64 (Int.tmod (w64 ((w64 (s3.vat + 1)) - 1)) (s3.L.length : Int)), .pointer (some ⟨b1, 0, none⟩), .pointer (some ⟨b1, 0, none⟩), .pointer (some ⟨b1, 1, none⟩), undef, undef, undef, undef, undef, undef, undef, undef, undef, undef, undef, undef, undef, undef, undef, undef, undef, undef, undef, undef, undef, undef, undef], []⟩) rfl (by kernel_rfl) (by kernel_rfl) (by kernel_rfl) hnp (Sg.g0 (Sx.of [] (FM.le.refl _) HS36)) ?_
    refine takeGQ 3 [] rfl (by kernel_rfl) (by kernel_rfl) (by kernel_rfl) (by kernel_rfl) (by kernel_rfl) (by kernel_rfl) hnp (Sg.g0 (Sx.of [] (FM.le.refl _) HS36)) (fun w_ hw_ => by obtain ⟨g_, hl_, hS_⟩ := hw_.st; exact run_load rfl Try.underlying3 rfl (by kernel_rfl : _ = Value.pointer (some ⟨b1, 1, none⟩)) (hS_.cell 1)) ?_
    refine takeG [4, 5, 6, 7] (n := 8) (fuel := 4) (l' := #[true, true, true, true, true, true, true, true, false, false, false, false]) (a' := ⟨#[.pointer (some ⟨b1, 0, none⟩), .int .i64 n7, undef, undef, .int .i64 0, .int .i64 (Int.tmod (w64 ((w64 (s3.vat + 1)) - 1)) (s3.L.length : Int)), undef, .pointer (some ⟨b1, 0, none⟩), .pointer (some ⟨b1, 0, none⟩), .pointer (some ⟨b1, 1, none⟩), .int .i64 s3.vat, .int .i64 (w64 (s3.vat + 1)), .pointer (some ⟨b1, 0, none⟩), .pointer (some ⟨b1, 1, none⟩), .pointer (some ⟨b1, 0, none⟩), .pointer (some ⟨b1, 0, none⟩), .pointer (some ⟨b1, 0, none⟩), .slice A4 s3.L.length c5, .int .i64 (s3.L.length : Int), .bool false, undef, undef, undef, undef, undef, undef, undef, .pointer (some ⟨b1, 0, none⟩), .pointer (some ⟨b1, 0, none⟩), .pointer (some ⟨b1, 1, none⟩), .int .i64 (w64 (s3.vat + 1)), .int .i64 (w64 ((w64 (s3.vat + 1)) - 1)), .pointer (some ⟨b1, 0, none⟩), .pointer (some ⟨b1, 0, none⟩), .pointer (some ⟨b1, 0, none⟩), .slice A4 s3.L.length c5, .int .i64 (s3.L.length : Int), .int .i64 (Int.tmod (w64 ((w64 (s3.vat + 1)) - 1)) (s3.L.length : Int)), .pointer (some ⟨b1, 0, none⟩), .pointer (some ⟨b1, 0, none⟩), .pointer (some ⟨b1, 1, none⟩), .int .i64 (w64 (s3.vat + 1)), .int .i64 (w64 ((w64 (s3.vat + 1)) - 1)), .pointer (some ⟨b1, 0, none⟩), .pointer (some ⟨b1, 0, none⟩), .pointer (some ⟨b1, 0, none⟩), undef, undef, undef, undef, undef, undef, undef, undef, undef, undef, undef, undef, undef, undef, undef, undef, undef, undef], []⟩) rfl (by kernel_rfl) (by kernel_rfl) (by kernel_rfl) hnp (Sg.g0 (Sx.of [] (FM.le.refl _) HS36)) ?_
    refine takeGQ 8 [] rfl (by kernel_rfl) (by kernel_rfl) (by kernel_rfl) (by kernel_rfl) (by kernel_rfl) (by kernel_rfl) hnp (Sg.g0 (Sx.of [] (FM.le.refl _) HS36)) (fun w_ hw_ => by obtain ⟨g_, hl_, hS_⟩ := hw_.st; exact run_load rfl Try.underlying22 rfl (by kernel_rfl : _ = Value.pointer (some ⟨b1, 0, none⟩)) (hS_.cell 0)) ?_
    refine takeG [9] (n := 3) (fuel := 2) (l' := #[true, true, true, true, true, true, true, true, true, true, false, false]) (a' := ⟨#[.pointer (some ⟨b1, 0, none⟩), .int .i64 n7, undef, undef, .int .i64 0, .int .i64 (Int.tmod (w64 ((w64 (s3.vat + 1)) - 1)) (s3.L.length : Int)), undef, .pointer (some ⟨b1, 0, none⟩), .pointer (some ⟨b1, 0, none⟩), .pointer (some ⟨b1, 1, none⟩), .int .i64 s3.vat, .int .i64 (w64 (s3.vat + 1)), .pointer (some ⟨b1, 0, none⟩), .pointer (some ⟨b1, 1, none⟩), .pointer (some ⟨b1, 0, none⟩), .pointer (some ⟨b1, 0, none⟩), .pointer (some ⟨b1, 0, none⟩), .slice A4 s3.L.length c5, .int .i64 (s3.L.length : Int), .bool false, undef, undef, undef, undef, undef, undef, undef, .pointer (some ⟨b1, 0, none⟩), .pointer (some ⟨b1, 0, none⟩), .pointer (some ⟨b1, 1, none⟩), .int .i64 (w64 (s3.vat + 1)), .int .i64 (w64 ((w64 (s3.vat + 1)) - 1)), .pointer (some ⟨b1, 0, none⟩), .pointer (some ⟨b1, 0, none⟩), .pointer (some ⟨b1, 0, none⟩), .slice A4 s3.L.length c5, .int .i64 (s3.L.length : Int), .int .i64 (Int.tmod (w64 ((w64 (s3.vat + 1)) - 1)) (s3.L.length : Int)), .pointer (some ⟨b1, 0, none⟩), .pointer (some ⟨b1, 0, none⟩), .pointer (some ⟨b1, 1, none⟩), .int .i64 (w64 (s3.vat + 1)), .int .i64 (w64 ((w64 (s3.vat + 1)) - 1)), .pointer (some ⟨b1, 0, none⟩), .pointer (some ⟨b1, 0, none⟩), .pointer (some ⟨b1, 0, none⟩), .slice A4 s3.L.length c5, .int .i64 (s3.L.length : Int), undef, undef, undef, undef, undef, undef, undef, undef, undef, undef, undef, undef, undef, undef, undef, undef], []⟩) rfl (by kernel_rfl) (by kernel_rfl) (by kernel_rfl) hnp (Sg.g0 (Sx.of [] (FM.le.refl _) HS36)) ?_
    refine takeGQ 10 [] rfl (by kernel_rfl) (by kernel_rfl) (by kernel_rfl) (by kernel_rfl) (by kernel_rfl) (by kernel_rfl) hnp (Sg.g0 (Sx.of [] (FM.le.refl _) HS36)) (fun w_ hw_ => by obtain ⟨g_, hl_, hS_⟩ := hw_.st; exact run_div rfl (by kernel_rfl : _ = Value.int .i64 (w64 ((w64 (s3.vat + 1)) - 1))) (by kernel_rfl : _ = Value.int .i64 (s3.L.length : Int)) c32 w_) ?_
    refine takeG [11] (n := 1) (fuel := 0) (l' := #[true, true, true, true, true, true, true, true, true, true, true, true]) (a' := ⟨#[.pointer (some ⟨b1, 0, none⟩), .int .i64 n7, undef, undef, .int .i64 0, .int .i64 (Int.tmod (w64 ((w64 (s3.vat + 1)) - 1)) (s3.L.length : Int)), .int .i64 (w64 (Int.tdiv (w64 ((w64 (s3.vat + 1)) - 1)) (s3.L.length : Int))), .pointer (some ⟨b1, 0, none⟩), .pointer (some ⟨b1, 0, none⟩), .pointer (some ⟨b1, 1, none⟩), .int .i64 s3.vat, .int .i64 (w64 (s3.vat + 1)), .pointer (some ⟨b1, 0, none⟩), .pointer (some ⟨b1, 1, none⟩), .pointer (some ⟨b1, 0, none⟩), .pointer (some ⟨b1, 0, none⟩), .pointer (some ⟨b1, 0, none⟩), .slice A4 s3.L.length c5, .int .i64 (s3.L.length : Int), .bool false, undef, undef, undef, undef, undef, undef, undef, .pointer (some ⟨b1, 0, none⟩), .pointer (some ⟨b1, 0, none⟩), .pointer (some ⟨b1, 1, none⟩), .int .i64 (w64 (s3.vat + 1)), .int .i64 (w64 ((w64 (s3.vat + 1)) - 1)), .pointer (some ⟨b1, 0, none⟩), .pointer (some ⟨b1, 0, none⟩), .pointer (some ⟨b1, 0, none⟩), .slice A4 s3.L.length c5, .int .i64 (s3.L.length : Int), .int .i64 (Int.tmod (w64 ((w64 (s3.vat + 1)) - 1)) (s3.L.length : Int)), .pointer (some ⟨b1, 0, none⟩), .pointer (some ⟨b1, 0, none⟩), .pointer (some ⟨b1, 1, none⟩), .int .i64 (w64 (s3.vat + 1)), .int .i64 (w64 ((w64 (s3.vat + 1)) - 1)), .pointer (some ⟨b1, 0, none⟩), .pointer (some ⟨b1, 0, none⟩), .pointer (some ⟨b1, 0, none⟩), .slice A4 s3.L.length c5, .int .i64 (s3.L.length : Int), .int .i64 (w64 (Int.tdiv (w64 ((w64 (s3.vat + 1)) - 1)) (s3.L.length : Int))), undef, undef, undef, undef, undef, undef, undef, undef, undef, undef, undef, undef, undef, undef, undef], []⟩) rfl (by kernel_rfl) (by kernel_rfl) (by kernel_rfl) hnp (Sg.g0 (Sx.of [] (FM.le.refl _) HS36)) ?_
    refine doneG (by kernel_rfl) ?_ _
    refine hK34 _ _ ?_
    refine wp_seq_k (fun K37 hK38 => ?_)
    refine wp_region_lit ?_
    refine seqL3 (by kernel_rfl) ?_
    refine seqK rfl (does_run (run_load rfl Try.underlying22 rfl (by kernel_rfl : _ = Value.pointer (some ⟨b1, 0, none⟩)) (HS36.cell 0)) ?_)
    have hq_ := guard_some h; clear h; obtain ⟨c39, h⟩ := hq_
    have c39 : 0 ≤ (Int.tmod (w64 ((w64 (s3.vat + 1)) - 1)) (s3.L.length : Int)) := c39
    have hq_ := guard_some h; clear h; obtain ⟨c40, h⟩ := hq_
    have c40 : (Int.tmod (w64 ((w64 (s3.vat + 1)) - 1)) (s3.L.length : Int)) < (s3.L.length : Int) := c40
    obtain ⟨b44, of45, cs41, hA46, hr42, hc43⟩ := HR6.at (i := Int.tmod (w64 ((w64 (s3.vat + 1)) - 1)) (s3.L.length : Int)) c39 c40
    obtain rfl := hr42
    refine seqL1 (by kernel_rfl) ?_
    refine seqK rfl (does_run (run_indexE hA46 (sz := 1) rfl Try.underlying22 (by kernel_rfl) (by kernel_rfl : _ = Value.slice A4 s3.L.length c5) (by kernel_rfl : _ = Value.int .i64 (Int.tmod (w64 ((w64 (s3.vat + 1)) - 1)) (s3.L.length : Int))) c39 c40 W35) ?_)
    refine seqK rfl (does_run (run_load rfl Try.underlying3 rfl (by kernel_rfl : _ = Value.pointer (some ⟨b44, of45 + (Int.tmod (w64 ((w64 (s3.vat + 1)) - 1)) (s3.L.length : Int) : Int).toNat * 1, none⟩)) ((hc43 (FM.le.refl _) HS36) 0 (by decide))) ?_)
    have hq_ := bind_some h; clear h; obtain ⟨vt47, hc48, h⟩ := hq_
    refine seqK rfl (does_call (f := 10) (args := #[.int .i64 (rd s3.L (Int.tmod (w64 ((w64 (s3.vat + 1)) - 1)) (s3.L.length : Int))), .int .i64 1073741824]) (by kernel_rfl) (spymake_Below.calls k (rd s3.L (Int.tmod (w64 ((w64 (s3.vat + 1)) - 1)) (s3.L.length : Int))) 1073741824 HS36 vt47 hc48) ?_)
    rintro _ W51 ⟨f49, rfl, L50, HS52⟩
    refine ⟨_, rfl, ?_⟩
    have hq_ := bind_some h; clear h; obtain ⟨vt53, hc54, h⟩ := hq_
    refine seqL6 (by kernel_rfl) ?_
    refine seqK rfl (does_call (f := 10) (args := #[.int .i64 (w64 (vt47 + (w64 ((w64 (Int.tdiv (w64 ((w64 (s3.vat + 1)) - 1)) (s3.L.length : Int))) * (w64 (7919 + (Int.tmod (w64 ((w64 (s3.vat + 1)) - 1)) (s3.L.length : Int)))))))), .int .i64 n7]) (by kernel_rfl) (spymake_Below.calls k (w64 (vt47 + (w64 ((w64 (Int.tdiv (w64 ((w64 (s3.vat + 1)) - 1)) (s3.L.length : Int))) * (w64 (7919 + (Int.tmod (w64 ((w64 (s3.vat + 1)) - 1)) (s3.L.length : Int)))))))) n7 HS52 vt53 hc54) ?_)
    rintro _ W57 ⟨f55, rfl, L56, HS58⟩
    refine ⟨_, rfl, ?_⟩
    refine seqS1 (a' := ⟨#[.pointer (some ⟨b1, 0, none⟩), .int .i64 n7, undef, undef, .int .i64 vt53, .int .i64 (Int.tmod (w64 ((w64 (s3.vat + 1)) - 1)) (s3.L.length : Int)), .int .i64 (w64 (Int.tdiv (w64 ((w64 (s3.vat + 1)) - 1)) (s3.L.length : Int))), .pointer (some ⟨b1, 0, none⟩), .pointer (some ⟨b1, 0, none⟩), .pointer (some ⟨b1, 1, none⟩), .int .i64 s3.vat, .int .i64 (w64 (s3.vat + 1)), .pointer (some ⟨b1, 0, none⟩), .pointer (some ⟨b1, 1, none⟩), .pointer (some ⟨b1, 0, none⟩), .pointer (some ⟨b1, 0, none⟩), .pointer (some ⟨b1, 0, none⟩), .slice A4 s3.L.length c5, .int .i64 (s3.L.length : Int), .bool false, undef, undef, undef, undef, undef, undef, undef, .pointer (some ⟨b1, 0, none⟩), .pointer (some ⟨b1, 0, none⟩), .pointer (some ⟨b1, 1, none⟩), .int .i64 (w64 (s3.vat + 1)), .int .i64 (w64 ((w64 (s3.vat + 1)) - 1)), .pointer (some ⟨b1, 0, none⟩), .pointer (some ⟨b1, 0, none⟩), .pointer (some ⟨b1, 0, none⟩), .slice A4 s3.L.length c5, .int .i64 (s3.L.length : Int), .int .i64 (Int.tmod (w64 ((w64 (s3.vat + 1)) - 1)) (s3.L.length : Int)), .pointer (some ⟨b1, 0, none⟩), .pointer (some ⟨b1, 0, none⟩), .pointer (some ⟨b1, 1, none⟩), .int .i64 (w64 (s3.vat + 1)), .int .i64 (w64 ((w64 (s3.vat + 1)) - 1)), .pointer (some ⟨b1, 0, none⟩), .pointer (some ⟨b1, 0, none⟩), .pointer (some ⟨b1, 0, none⟩), .slice A4 s3.L.length c5, .int .i64 (s3.L.length : Int), .int .i64 (w64 (Int.tdiv (w64 ((w64 (s3.vat + 1)) - 1)) (s3.L.length : Int))), .pointer (some ⟨b1, 0, none⟩), .pointer (some ⟨b1, 0, none⟩), .pointer (some ⟨b1, 0, none⟩), .slice A4 s3.L.length c5, .int .i64 (Int.tmod (w64 ((w64 (s3.vat + 1)) - 1)) (s3.L.length : Int)), .pointer (some ⟨b44, of45 + (Int.tmod (w64 ((w64 (s3.vat + 1)) - 1)) (s3.L.length : Int) : Int).toNat * 1, none⟩), .int .i64 (rd s3.L (Int.tmod (w64 ((w64 (s3.vat + 1)) - 1)) (s3.L.length : Int))), .int .i64 vt47, .int .i64 (w64 (Int.tdiv (w64 ((w64 (s3.vat + 1)) - 1)) (s3.L.length : Int))), .int .i64 (Int.tmod (w64 ((w64 (s3.vat + 1)) - 1)) (s3.L.length : Int)), .int .i64 (w64 (7919 + (Int.tmod (w64 ((w64 (s3.vat + 1)) - 1)) (s3.L.length : Int)))), .int .i64 (w64 ((w64 (Int.tdiv (w64 ((w64 (s3.vat + 1)) - 1)) (s3.L.length : Int))) * (w64 (7919 + (Int.tmod (w64 ((w64 (s3.vat + 1)) - 1)) (s3.L.length : Int)))))), .int .i64 (w64 (vt47 + (w64 ((w64 (Int.tdiv (w64 ((w64 (s3.vat + 1)) - 1)) (s3.L.length : Int))) * (w64 (7919 + (Int.tmod (w64 ((w64 (s3.vat + 1)) - 1)) (s3.L.length : Int)))))))), .int .i64 n7, .int .i64 vt53], []⟩) (by kernel_rfl) ?_
    refine wpList_nil ?_
    refine hK38 _ _ ?_
    refine wp_ret ?_
    refine hret _ _ ?_
    refine ends_still (v := Value.int .i64 vt53) (by kernel_rfl) (by kernel_rfl) ?_
    injection h with h
    injection h with h0_ h
    subst h0_ h
    exact ⟨f55, rfl, (L50.trans L56), HS58⟩

set_option maxRecDepth 100000 in
set_option maxHeartbeats 4000000 in
theorem spymake_Stream_Range.calls (k : Nat) (b1 : Nat) (A4 : Option Addr) (c5 : Nat) (s3 : S_Stream) (low7 : Int) (high8 : Int) {t w : World} {f : FM} {H : List Seg} (HS : St t w f ([(b1, .cells #[.slice A4 s3.L.length c5, .int .i64 s3.vat] 25 (0, 0))] :: H)) (HR6 : SlR (tInt .i64) f A4 c5 s3.L) (r1 : Int) (r2 : Int) (h : spymake_Stream_Range k s3 low7 high8 = some (r1, r2)) :
    Calls Try.prog 25 #[.pointer (some ⟨b1, 0, none⟩), .int .i64 low7, .int .i64 high8] w (fun e w' => ∃ (g : FM), e = .returned (Value.int .i64 r1) ∧ FM.le f g ∧ St t w' g ([(b1, .cells #[.slice A4 s3.L.length c5, .int .i64 r2] 25 (0, 0))] :: H)) := by
  unfold spymake_Stream_Range at h
  refine enter Try.func25 rfl (tm := #[.pointer (some ⟨b1, 0, none⟩), .int .i64 low7, .int .i64 high8, undef, undef, undef, undef, undef, undef, undef, undef, undef, undef, undef, undef, undef, undef, undef, undef]) (by kernel_rfl) ?_
  intro B hret hnor hnp
  refine wp_seq_k (fun K9 hK10 => ?_)
  refine wp_region_lit ?_
  refine seqS1 (a' := ⟨#[.pointer (some ⟨b1, 0, none⟩), .int .i64 low7, .int .i64 high8, undef, undef, undef, .int .i64 0, undef, undef, undef, undef, undef, undef, undef, undef, undef, undef, undef, undef], []⟩) (by kernel_rfl) ?_
  refine wpList_nil ?_
  refine hK10 _ _ ?_
  refine wp_seq_k (fun K11 hK12 => ?_)
  refine wp_seq_k (fun K13 hK14 => ?_)
  refine wp_region_lit ?_
  refine seqS3 (a' := ⟨#[.pointer (some ⟨b1, 0, none⟩), .int .i64 low7, .int .i64 high8, undef, undef, undef, .int .i64 0, .int .i64 high8, .int .i64 low7, .bool (decide (high8 < low7)), undef, undef, undef, undef, undef, undef, undef, undef, undef], []⟩) (by kernel_rfl) ?_
  refine wpList_nil ?_
  refine hK14 _ _ ?_
  have hq_ := ite_some h; clear h; rcases hq_ with ⟨c16, h⟩ | ⟨c16, h⟩
  · have c16 : high8 < low7 := c16
    refine wpRwI 9 (x := (decide (high8 < low7))) (v := true) (by kernel_rfl) (decide_eq_true c16) ?_
    refine condT (by kernel_rfl) ?_
    refine wp_seq_k (fun K17 hK18 => ?_)
    refine wp_region_lit ?_
    refine seqS2 (a' := ⟨#[.pointer (some ⟨b1, 0, none⟩), .int .i64 low7, .int .i64 high8, undef, undef, undef, .int .i64 low7, .int .i64 high8, .int .i64 low7, .bool true, .int .i64 low7, undef, undef, undef, undef, undef, undef, undef, undef], []⟩) (by kernel_rfl) ?_
    refine wpList_nil ?_
    refine hK18 _ _ ?_
    refine wp_ret ?_
    refine hret _ _ ?_
    refine ends_still (v := Value.int .i64 low7) (by kernel_rfl) (by kernel_rfl) ?_
    injection h with h
    injection h with h0_ h
    subst h0_ h
    exact ⟨f, rfl, FM.le.refl _, HS⟩
  · have c16 : ¬ (high8 < low7) := c16
    refine wpRwI 9 (x := (decide (high8 < low7))) (v := false) (by kernel_rfl) (decide_eq_false c16) ?_
    refine condF (by kernel_rfl) ?_
    refine wp_skip ?_
    refine hK12 _ _ ?_
    refine wp_seq_k (fun K19 hK20 => ?_)
    refine wp_region_lit ?_
    have hq_ := bind_some h; clear h; obtain ⟨⟨vt21, vt22⟩, hc23, h⟩ := hq_
    refine seqL6 (by kernel_rfl) ?_
    refine seqK rfl (does_call (f := 12) (args := #[.pointer (some ⟨b1, 0, none⟩), .int .i64 (w64 ((w64 (high8 - low7)) + 1))]) (by kernel_rfl) (spymake_Stream_Next.calls k b1 A4 c5 s3 (w64 ((w64 (high8 - low7)) + 1)) HS HR6 vt21 vt22 hc23) ?_)
    rintro _ W26 ⟨f24, rfl, L25, HS27⟩
    refine ⟨_, rfl, ?_⟩
    refine seqS2 (a' := ⟨#[.pointer (some ⟨b1, 0, none⟩), .int .i64 low7, .int .i64 high8, undef, undef, undef, .int .i64 (w64 (low7 + vt21)), .int .i64 high8, .int .i64 low7, .bool false, undef, .int .i64 low7, .pointer (some ⟨b1, 0, none⟩), .int .i64 high8, .int .i64 low7, .int .i64 (w64 (high8 - low7)), .int .i64 (w64 ((w64 (high8 - low7)) + 1)), .int .i64 vt21, .int .i64 (w64 (low7 + vt21))], []⟩) (by kernel_rfl) ?_
    refine wpList_nil ?_
    refine hK20 _ _ ?_
    refine wp_ret ?_
    refine hret _ _ ?_
    refine ends_still (v := Value.int .i64 (w64 (low7 + vt21))) (by kernel_rfl) (by kernel_rfl) ?_
    injection h with h
    injection h with h0_ h
    subst h0_ h
    exact ⟨f24, rfl, L25, HS27⟩

set_option maxRecDepth 100000 in
set_option maxHeartbeats 4000000 in
theorem bits_Mul64.calls (k : Nat)  (x1 : Int) (y2 : Int) {t w : World} {f : FM} {H : List Seg} (HS : St t w f (H)) (r1 : Int) (r2 : Int) (h : bits_Mul64 k x1 y2 = some (r1, r2)) :
    Calls Try.prog 97 #[.int .u64 x1, .int .u64 y2] w (fun e w' => ∃ (g : FM), e = .returned (Value.tuple #[.int .u64 r1, .int .u64 r2]) ∧ FM.le f g ∧ St t w' g (H)) := by
  unfold bits_Mul64 at h
  refine enter Try.func97 rfl (tm := #[.int .u64 x1, .int .u64 y2, undef, undef, undef, undef, undef, undef, undef, undef, undef, undef, undef, undef, undef, undef, undef, undef, undef, undef, undef, undef, undef, undef, undef, undef, undef, undef, undef, undef, undef, undef, undef, undef, undef, undef, undef, undef, undef, undef, undef, undef, undef, undef, undef, undef, undef, undef, undef, undef, undef]) (by kernel_rfl) ?_
  intro B hret hnor hnp
  refine wp_seq_k (fun K3 hK4 => ?_)
  refine wp_region_lit ?_
  refine seqS2 (a' := ⟨#[.int .u64 x1, .int .u64 y2, undef, undef, .int .u64 0, .int .u64 0, undef, undef, undef, undef, undef, undef, undef, undef, undef, undef, undef, undef, undef, undef, undef, undef, undef, undef, undef, undef, undef, undef, undef, undef, undef, undef, undef, undef, undef, undef, undef, undef, undef, undef, undef, undef, undef, undef, undef, undef, undef, undef, undef, undef, undef], []⟩) (by kernel_rfl) ?_
  refine wpList_nil ?_
  refine hK4 _ _ ?_
  refine wp_seq_k (fun K5 hK6 => ?_)
  refine wp_region_lit ?_
  refine seqS3 (a' := ⟨#[.int .u64 x1, .int .u64 y2, undef, undef, .int .u64 0, .int .u64 0, .int .u64 (Go.bits .and .u64 x1 4294967295), undef, undef, undef, undef, undef, undef, undef, .int .u64 x1, .int .u64 (Go.bits .and .u64 x1 4294967295), undef, undef, undef, undef, undef, undef, undef, undef, undef, undef, undef, undef, undef, undef, undef, undef, undef, undef, undef, undef, undef, undef, undef, undef, undef, undef, undef, undef, undef, undef, undef, undef, undef, undef, undef], []⟩) (by kernel_rfl) ?_
  refine wpList_nil ?_
  refine hK6 _ _ ?_
  refine wp_seq_k (fun K7 hK8 => ?_)
  refine wp_region_lit ?_
  refine seqS3 (a' := ⟨#[.int .u64 x1, .int .u64 y2, undef, undef, .int .u64 0, .int .u64 0, .int .u64 (Go.bits .and .u64 x1 4294967295), .int .u64 (shr x1 32), undef, undef, undef, undef, undef, undef, .int .u64 x1, .int .u64 (Go.bits .and .u64 x1 4294967295), .int .u64 x1, .int .u64 (shr x1 32), undef, undef, undef, undef, undef, undef, undef, undef, undef, undef, undef, undef, undef, undef, undef, undef, undef, undef, undef, undef, undef, undef, undef, undef, undef, undef, undef, undef, undef, undef, undef, undef, undef], []⟩) (by kernel_rfl) ?_
  refine wpList_nil ?_
  refine hK8 _ _ ?_
  refine wp_seq_k (fun K9 hK10 => ?_)
  refine wp_region_lit ?_
  refine seqS3 (a' := ⟨#[.int .u64 x1, .int .u64 y2, undef, undef, .int .u64 0, .int .u64 0, .int .u64 (Go.bits .and .u64 x1 4294967295), .int .u64 (shr x1 32), .int .u64 (Go.bits .and .u64 y2 4294967295), undef, undef, undef, undef, undef, .int .u64 x1, .int .u64 (Go.bits .and .u64 x1 4294967295), .int .u64 x1, .int .u64 (shr x1 32), .int .u64 y2, .int .u64 (Go.bits .and .u64 y2 4294967295), undef, undef, undef, undef, undef, undef, undef, undef, undef, undef, undef, undef, undef, undef, undef, undef, undef, undef, undef, undef, undef, undef, undef, undef, undef, undef, undef, undef, undef, undef, undef], []⟩) (by kernel_rfl) ?_
  refine wpList_nil ?_
  refine hK10 _ _ ?_
  refine wp_seq_k (fun K11 hK12 => ?_)
  refine wp_region_lit ?_
  refine seqS3 (a' := ⟨#[.int .u64 x1, .int .u64 y2, undef, undef, .int .u64 0, .int .u64 0, .int .u64 (Go.bits .and .u64 x1 4294967295), .int .u64 (shr x1 32), .int .u64 (Go.bits .and .u64 y2 4294967295), .int .u64 (shr y2 32), undef, undef, undef, undef, .int .u64 x1, .int .u64 (Go.bits .and .u64 x1 4294967295), .int .u64 x1, .int .u64 (shr x1 32), .int .u64 y2, .int .u64 (Go.bits .and .u64 y2 4294967295), .int .u64 y2, .int .u64 (shr y2 32), undef, undef, undef, undef, undef, undef, undef, undef, undef, undef, undef, undef, undef, undef, undef, undef, undef, undef, undef, undef, undef, undef, undef, undef, undef, undef, undef, undef, undef], []⟩) (by kernel_rfl) ?_
  refine wpList_nil ?_
  refine hK12 _ _ ?_
  refine wp_seq_k (fun K13 hK14 => ?_)
  refine wp_region_lit ?_
  refine seqS4 (a' := ⟨#[.int .u64 x1, .int .u64 y2, undef, undef, .int .u64 0, .int .u64 0, .int .u64 (Go.bits .and .u64 x1 4294967295), .int .u64 (shr x1 32), .int .u64 (Go.bits .and .u64 y2 4294967295), .int .u64 (shr y2 32), .int .u64 (u64 ((Go.bits .and .u64 x1 4294967295) * (Go.bits .and .u64 y2 4294967295))), undef, undef, undef, .int .u64 x1, .int .u64 (Go.bits .and .u64 x1 4294967295), .int .u64 x1, .int .u64 (shr x1 32), .int .u64 y2, .int .u64 (Go.bits .and .u64 y2 4294967295), .int .u64 y2, .int .u64 (shr y2 32), .int .u64 (Go.bits .and .u64 x1 4294967295), .int .u64 (Go.bits .and .u64 y2 4294967295), .int .u64 (u64 ((Go.bits .and .u64 x1 4294967295) * (Go.bits .and .u64 y2 4294967295))), undef, undef, undef, undef, undef, undef, undef, undef, undef, undef, undef, undef, undef, undef, undef, undef, undef, undef, undef, undef, undef, undef, undef, undef, undef, undef], []⟩) (by kernel_rfl) ?_
  refine wpList_nil ?_
  refine hK14 _ _ ?_
  refine wp_seq_k (fun K15 hK16 => ?_)
  refine wp_region_lit ?_
  refine seqS7 (a' := ⟨#[.int .u64 x1, .int .u64 y2, undef, undef, .int .u64 0, .int .u64 0, .int .u64 (Go.bits .and .u64 x1 4294967295), .int .u64 (shr x1 32), .int .u64 (Go.bits .and .u64 y2 4294967295), .int .u64 (shr y2 32), .int .u64 (u64 ((Go.bits .and .u64 x1 4294967295) * (Go.bits .and .u64 y2 4294967295))), .int .u64 (u64 ((u64 ((shr x1 32) * (Go.bits .and .u64 y2 4294967295))) + (shr (u64 ((Go.bits .and .u64 x1 4294967295) * (Go.bits .and .u64 y2 4294967295))) 32))), undef, undef, .int .u64 x1, .int .u64 (Go.bits .and .u64 x1 4294967295), .int .u64 x1, .int .u64 (shr x1 32), .int .u64 y2, .int .u64 (Go.bits .and .u64 y2 4294967295), .int .u64 y2, .int .u64 (shr y2 32), .int .u64 (Go.bits .and .u64 x1 4294967295), .int .u64 (Go.bits .and .u64 y2 4294967295), .int .u64 (u64 ((Go.bits .and .u64 x1 4294967295) * (Go.bits .and .u64 y2 4294967295))), .int .u64 (shr x1 32), .int .u64 (Go.bits .and .u64 y2 4294967295), .int .u64 (u64 ((shr x1 32) * (Go.bits .and .u64 y2 4294967295))), .int .u64 (u64 ((Go.bits .and .u64 x1 4294967295) * (Go.bits .and .u64 y2 4294967295))), .int .u64 (shr (u64 ((Go.bits .and .u64 x1 4294967295) * (Go.bits .and .u64 y2 4294967295))) 32), .int .u64 (u64 ((u64 ((shr x1 32) * (Go.bits .and .u64 y2 4294967295))) + (shr (u64 ((Go.bits .and .u64 x1 4294967295) * (Go.bits .and .u64 y2 4294967295))) 32))), undef, undef, undef, undef, undef, undef, undef, undef, undef, undef, undef, undef, undef, undef, undef, undef, undef, undef, undef, undef], []⟩) (by kernel_rfl) ?_
  refine wpList_nil ?_
  refine hK16 _ _ ?_
  refine wp_seq_k (fun K17 hK18 => ?_)
  refine wp_region_lit ?_
  refine seqS3 (a' := ⟨#[.int .u64 x1, .int .u64 y2, undef, undef, .int .u64 0, .int .u64 0, .int .u64 (Go.bits .and .u64 x1 4294967295), .int .u64 (shr x1 32), .int .u64 (Go.bits .and .u64 y2 4294967295), .int .u64 (shr y2 32), .int .u64 (u64 ((Go.bits .and .u64 x1 4294967295) * (Go.bits .and .u64 y2 4294967295))), .int .u64 (u64 ((u64 ((shr x1 32) * (Go.bits .and .u64 y2 4294967295))) + (shr (u64 ((Go.bits .and .u64 x1 4294967295) * (Go.bits .and .u64 y2 4294967295))) 32))), .int .u64 (Go.bits .and .u64 (u64 ((u64 ((shr x1 32) * (Go.bits .and .u64 y2 4294967295))) + (shr (u64 ((Go.bits .and .u64 x1 4294967295) * (Go.bits .and .u64 y2 4294967295))) 32))) 4294967295), undef, .int .u64 x1, .int .u64 (Go.bits .and .u64 x1 4294967295), .int .u64 x1, .int .u64 (shr x1 32), .int .u64 y2, .int .u64 (Go.bits .and .u64 y2 4294967295), .int .u64 y2, .int .u64 (shr y2 32), .int .u64 (Go.bits .and .u64 x1 4294967295), .int .u64 (Go.bits .and .u64 y2 4294967295), .int .u64 (u64 ((Go.bits .and .u64 x1 4294967295) * (Go.bits .and .u64 y2 4294967295))), .int .u64 (shr x1 32), .int .u64 (Go.bits .and .u64 y2 4294967295), .int .u64 (u64 ((shr x1 32) * (Go.bits .and .u64 y2 4294967295))), .int .u64 (u64 ((Go.bits .and .u64 x1 4294967295) * (Go.bits .and .u64 y2 4294967295))), .int .u64 (shr (u64 ((Go.bits .and .u64 x1 4294967295) * (Go.bits .and .u64 y2 4294967295))) 32), .int .u64 (u64 ((u64 ((shr x1 32) * (Go.bits .and .u64 y2 4294967295))) + (shr (u64 ((Go.bits .and .u64 x1 4294967295) * (Go.bits .and .u64 y2 4294967295))) 32))), .int .u64 (u64 ((u64 ((shr x1 32) * (Go.bits .and .u64 y2 4294967295))) + (shr (u64 ((Go.bits .and .u64 x1 4294967295) * (Go.bits .and .u64 y2 4294967295))) 32))), .int .u64 (Go.bits .and .u64 (u64 ((u64 ((shr x1 32) * (Go.bits .and .u64 y2 4294967295))) + (shr (u64 ((Go.bits .and .u64 x1 4294967295) * (Go.bits .and .u64 y2 4294967295))) 32))) 4294967295), undef, undef, undef, undef, undef, undef, undef, undef, undef, undef, undef, undef, undef, undef, undef, undef, undef, undef], []⟩) (by kernel_rfl) ?_
  refine wpList_nil ?_
  refine hK18 _ _ ?_
  refine wp_seq_k (fun K19 hK20 => ?_)
  refine wp_region_lit ?_
  refine seqS3 (a' := ⟨#[.int .u64 x1, .int .u64 y2, undef, undef, .int .u64 0, .int .u64 0, .int .u64 (Go.bits .and .u64 x1 4294967295), .int .u64 (shr x1 32), .int .u64 (Go.bits .and .u64 y2 4294967295), .int .u64 (shr y2 32), .int .u64 (u64 ((Go.bits .and .u64 x1 4294967295) * (Go.bits .and .u64 y2 4294967295))), .int .u64 (u64 ((u64 ((shr x1 32) * (Go.bits .and .u64 y2 4294967295))) + (shr (u64 ((Go.bits .and .u64 x1 4294967295) * (Go.bits .and .u64 y2 4294967295))) 32))), .int .u64 (Go.bits .and .u64 (u64 ((u64 ((shr x1 32) * (Go.bits .and .u64 y2 4294967295))) + (shr (u64 ((Go.bits .and .u64 x1 4294967295) * (Go.bits .and .u64 y2 4294967295))) 32))) 4294967295), .int .u64 (shr (u64 ((u64 ((shr x1 32) * (Go.bits .and .u64 y2 4294967295))) + (shr (u64 ((Go.bits .and .u64 x1 4294967295) * (Go.bits .and .u64 y2 4294967295))) 32))) 32), .int .u64 x1, .int .u64 (Go.bits .and .u64 x1 4294967295), .int .u64 x1, .int .u64 (shr x1 32), .int .u64 y2, .int .u64 (Go.bits .and .u64 y2 4294967295), .int .u64 y2, .int .u64 (shr y2 32), .int .u64 (Go.bits .and .u64 x1 4294967295), .int .u64 (Go.bits .and .u64 y2 4294967295), .int .u64 (u64 ((Go.bits .and .u64 x1 4294967295) * (Go.bits .and .u64 y2 4294967295))), .int .u64 (shr x1 32), .int .u64 (Go.bits .and .u64 y2 4294967295), .int .u64 (u64 ((shr x1 32) * (Go.bits .and .u64 y2 4294967295))), .int .u64 (u64 ((Go.bits .and .u64 x1 4294967295) * (Go.bits .and .u64 y2 4294967295))), .int .u64 (shr (u64 ((Go.bits .and .u64 x1 4294967295) * (Go.bits .and .u64 y2 4294967295))) 32), .int .u64 (u64 ((u64 ((shr x1 32) * (Go.bits .and .u64 y2 4294967295))) + (shr (u64 ((Go.bits .and .u64 x1 4294967295) * (Go.bits .and .u64 y2 4294967295))) 32))), .int .u64 (u64 ((u64 ((shr x1 32) * (Go.bits .and .u64 y2 4294967295))) + (shr (u64 ((Go.bits .and .u64 x1 4294967295) * (Go.bits .and .u64 y2 4294967295))) 32))), .int .u64 (Go.bits .and .u64 (u64 ((u64 ((shr x1 32) * (Go.bits .and .u64 y2 4294967295))) + (shr (u64 ((Go.bits .and .u64 x1 4294967295) * (Go.bits .and .u64 y2 4294967295))) 32))) 4294967295), .int .u64 (u64 ((u64 ((shr x1 32) * (Go.bits .and .u64 y2 4294967295))) + (shr (u64 ((Go.bits .and .u64 x1 4294967295) * (Go.bits .and .u64 y2 4294967295))) 32))), .int .u64 (shr (u64 ((u64 ((shr x1 32) * (Go.bits .and .u64 y2 4294967295))) + (shr (u64 ((Go.bits .and .u64 x1 4294967295) * (Go.bits .and .u64 y2 4294967295))) 32))) 32), undef, undef, undef, undef, undef, undef, undef, undef, undef, undef, undef, undef, undef, undef, undef, undef], []⟩) (by kernel_rfl) ?_
  refine wpList_nil ?_
  refine hK20 _ _ ?_
  refine wp_seq_k (fun K21 hK22 => ?_)
  refine wp_region_lit ?_
  refine seqS6 (a' := ⟨#[.int .u64 x1, .int .u64 y2, undef, undef, .int .u64 0, .int .u64 0, .int .u64 (Go.bits .and .u64 x1 4294967295), .int .u64 (shr x1 32), .int .u64 (Go.bits .and .u64 y2 4294967295), .int .u64 (shr y2 32), .int .u64 (u64 ((Go.bits .and .u64 x1 4294967295) * (Go.bits .and .u64 y2 4294967295))), .int .u64 (u64 ((u64 ((shr x1 32) * (Go.bits .and .u64 y2 4294967295))) + (shr (u64 ((Go.bits .and .u64 x1 4294967295) * (Go.bits .and .u64 y2 4294967295))) 32))), .int .u64 (u64 ((Go.bits .and .u64 (u64 ((u64 ((shr x1 32) * (Go.bits .and .u64 y2 4294967295))) + (shr (u64 ((Go.bits .and .u64 x1 4294967295) * (Go.bits .and .u64 y2 4294967295))) 32))) 4294967295) + (u64 ((Go.bits .and .u64 x1 4294967295) * (shr y2 32))))), .int .u64 (shr (u64 ((u64 ((shr x1 32) * (Go.bits .and .u64 y2 4294967295))) + (shr (u64 ((Go.bits .and .u64 x1 4294967295) * (Go.bits .and .u64 y2 4294967295))) 32))) 32), .int .u64 x1, .int .u64 (Go.bits .and .u64 x1 4294967295), .int .u64 x1, .int .u64 (shr x1 32), .int .u64 y2, .int .u64 (Go.bits .and .u64 y2 4294967295), .int .u64 y2, .int .u64 (shr y2 32), .int .u64 (Go.bits .and .u64 x1 4294967295), .int .u64 (Go.bits .and .u64 y2 4294967295), .int .u64 (u64 ((Go.bits .and .u64 x1 4294967295) * (Go.bits .and .u64 y2 4294967295))), .int .u64 (shr x1 32), .int .u64 (Go.bits .and .u64 y2 4294967295), .int .u64 (u64 ((shr x1 32) * (Go.bits .and .u64 y2 4294967295))), .int .u64 (u64 ((Go.bits .and .u64 x1 4294967295) * (Go.bits .and .u64 y2 4294967295))), .int .u64 (shr (u64 ((Go.bits .and .u64 x1 4294967295) * (Go.bits .and .u64 y2 4294967295))) 32), .int .u64 (u64 ((u64 ((shr x1 32) * (Go.bits .and .u64 y2 4294967295))) + (shr (u64 ((Go.bits .and .u64 x1 4294967295) * (Go.bits .and .u64 y2 4294967295))) 32))), .int .u64 (u64 ((u64 ((shr x1 32) * (Go.bits .and .u64 y2 4294967295))) + (shr (u64 ((Go.bits .and .u64 x1 4294967295) * (Go.bits .and .u64 y2 4294967295))) 32))), .int .u64 (Go.bits .and .u64 (u64 ((u64 ((shr x1 32) * (Go.bits .and .u64 y2 4294967295))) + (shr (u64 ((Go.bits .and .u64 x1 4294967295) * (Go.bits .and .u64 y2 4294967295))) 32))) 4294967295), .int .u64 (u64 ((u64 ((shr x1 32) * (Go.bits .and .u64 y2 4294967295))) + (shr (u64 ((Go.bits .and .u64 x1 4294967295) * (Go.bits .and .u64 y2 4294967295))) 32))), .int .u64 (shr (u64 ((u64 ((shr x1 32) * (Go.bits .and .u64 y2 4294967295))) + (shr (u64 ((Go.bits .and .u64 x1 4294967295) * (Go.bits .and .u64 y2 4294967295))) 32))) 32), .int .u64 (Go.bits .and .u64 (u64 ((u64 ((shr x1 32) * (Go.bits .and .u64 y2 4294967295))) + (shr (u64 ((Go.bits .and .u64 x1 4294967295) * (Go.bits .and .u64 y2 4294967295))) 32))) 4294967295), .int .u64 (Go.bits .and .u64 x1 4294967295), .int .u64 (shr y2 32), .int .u64 (u64 ((Go.bits .and .u64 x1 4294967295) * (shr y2 32))), .int .u64 (u64 ((Go.bits .and .u64 (u64 ((u64 ((shr x1 32) * (Go.bits .and .u64 y2 4294967295))) + (shr (u64 ((Go.bits .and .u64 x1 4294967295) * (Go.bits .and .u64 y2 4294967295))) 32))) 4294967295) + (u64 ((Go.bits .and .u64 x1 4294967295) * (shr y2 32))))), undef, undef, undef, undef, undef, undef, undef, undef, undef, undef, undef], []⟩) (by kernel_rfl) ?_
  refine wpList_nil ?_
  refine hK22 _ _ ?_
  refine wp_seq_k (fun K23 hK24 => ?_)
  refine wp_region_lit ?_
  refine seqS9 (a' := ⟨#[.int .u64 x1, .int .u64 y2, undef, undef, .int .u64 (u64 ((u64 ((u64 ((shr x1 32) * (shr y2 32))) + (shr (u64 ((u64 ((shr x1 32) * (Go.bits .and .u64 y2 4294967295))) + (shr (u64 ((Go.bits .and .u64 x1 4294967295) * (Go.bits .and .u64 y2 4294967295))) 32))) 32))) + (shr (u64 ((Go.bits .and .u64 (u64 ((u64 ((shr x1 32) * (Go.bits .and .u64 y2 4294967295))) + (shr (u64 ((Go.bits .and .u64 x1 4294967295) * (Go.bits .and .u64 y2 4294967295))) 32))) 4294967295) + (u64 ((Go.bits .and .u64 x1 4294967295) * (shr y2 32))))) 32))), .int .u64 0, .int .u64 (Go.bits .and .u64 x1 4294967295), .int .u64 (shr x1 32), .int .u64 (Go.bits .and .u64 y2 4294967295), .int .u64 (shr y2 32), .int .u64 (u64 ((Go.bits .and .u64 x1 4294967295) * (Go.bits .and .u64 y2 4294967295))), .int .u64 (u64 ((u64 ((shr x1 32) * (Go.bits .and .u64 y2 4294967295))) + (shr (u64 ((Go.bits .and .u64 x1 4294967295) * (Go.bits .and .u64 y2 4294967295))) 32))), .int .u64 (u64 ((Go.bits .and .u64 (u64 ((u64 ((shr x1 32) * (Go.bits .and .u64 y2 4294967295))) + (shr (u64 ((Go.bits .and .u64 x1 4294967295) * (Go.bits .and .u64 y2 4294967295))) 32))) 4294967295) + (u64 ((Go.bits .and .u64 x1 4294967295) * (shr y2 32))))), .int .u64 (shr (u64 ((u64 ((shr x1 32) * (Go.bits .and .u64 y2 4294967295))) + (shr (u64 ((Go.bits .and .u64 x1 4294967295) * (Go.bits .and .u64 y2 4294967295))) 32))) 32), .int .u64 x1, .int .u64 (Go.bits .and .u64 x1 4294967295), .int .u64 x1, .int .u64 (shr x1 32), .int .u64 y2, .int .u64 (Go.bits .and .u64 y2 4294967295), .int .u64 y2, .int .u64 (shr y2 32), .int .u64 (Go.bits .and .u64 x1 4294967295), .int .u64 (Go.bits .and .u64 y2 4294967295), .int .u64 (u64 ((Go.bits .and .u64 x1 4294967295) * (Go.bits .and .u64 y2 4294967295))), .int .u64 (shr x1 32), .int .u64 (Go.bits .and .u64 y2 4294967295), .int .u64 (u64 ((shr x1 32) * (Go.bits .and .u64 y2 4294967295))), .int .u64 (u64 ((Go.bits .and .u64 x1 4294967295) * (Go.bits .and .u64 y2 4294967295))), .int .u64 (shr (u64 ((Go.bits .and .u64 x1 4294967295) * (Go.bits .and .u64 y2 4294967295))) 32), .int .u64 (u64 ((u64 ((shr x1 32) * (Go.bits .and .u64 y2 4294967295))) + (shr (u64 ((Go.bits .and .u64 x1 4294967295) * (Go.bits .and .u64 y2 4294967295))) 32))), .int .u64 (u64 ((u64 ((shr x1 32) * (Go.bits .and .u64 y2 4294967295))) + (shr (u64 ((Go.bits .and .u64 x1 4294967295) * (Go.bits .and .u64 y2 4294967295))) 32))), .int .u64 (Go.bits .and .u64 (u64 ((u64 ((shr x1 32) * (Go.bits .and .u64 y2 4294967295))) + (shr (u64 ((Go.bits .and .u64 x1 4294967295) * (Go.bits .and .u64 y2 4294967295))) 32))) 4294967295), .int .u64 (u64 ((u64 ((shr x1 32) * (Go.bits .and .u64 y2 4294967295))) + (shr (u64 ((Go.bits .and .u64 x1 4294967295) * (Go.bits .and .u64 y2 4294967295))) 32))), .int .u64 (shr (u64 ((u64 ((shr x1 32) * (Go.bits .and .u64 y2 4294967295))) + (shr (u64 ((Go.bits .and .u64 x1 4294967295) * (Go.bits .and .u64 y2 4294967295))) 32))) 32), .int .u64 (Go.bits .and .u64 (u64 ((u64 ((shr x1 32) * (Go.bits .and .u64 y2 4294967295))) + (shr (u64 ((Go.bits .and .u64 x1 4294967295) * (Go.bits .and .u64 y2 4294967295))) 32))) 4294967295), .int .u64 (Go.bits .and .u64 x1 4294967295), .int .u64 (shr y2 32), .int .u64 (u64 ((Go.bits .and .u64 x1 4294967295) * (shr y2 32))), .int .u64 (u64 ((Go.bits .and .u64 (u64 ((u64 ((shr x1 32) * (Go.bits .and .u64 y2 4294967295))) + (shr (u64 ((Go.bits .and .u64 x1 4294967295) * (Go.bits .and .u64 y2 4294967295))) 32))) 4294967295) + (u64 ((Go.bits .and .u64 x1 4294967295) * (shr y2 32))))), .int .u64 (shr x1 32), .int .u64 (shr y2 32), .int .u64 (u64 ((shr x1 32) * (shr y2 32))), .int .u64 (shr (u64 ((u64 ((shr x1 32) * (Go.bits .and .u64 y2 4294967295))) + (shr (u64 ((Go.bits .and .u64 x1 4294967295) * (Go.bits .and .u64 y2 4294967295))) 32))) 32), .int .u64 (u64 ((u64 ((shr x1 32) * (shr y2 32))) + (shr (u64 ((u64 ((shr x1 32) * (Go.bits .and .u64 y2 4294967295))) + (shr (u64 ((Go.bits .and .u64 x1 4294967295) * (Go.bits .and .u64 y2 4294967295))) 32))) 32))), .int .u64 (u64 ((Go.bits .and .u64 (u64 ((u64 ((shr x1 32) * (Go.bits .and .u64 y2 4294967295))) + (shr (u64 ((Go.bits .and .u64 x1 4294967295) * (Go.bits .and .u64 y2 4294967295))) 32))) 4294967295) + (u64 ((Go.bits .and .u64 x1 4294967295) * (shr y2 32))))), .int .u64 (shr (u64 ((Go.bits .and .u64 (u64 ((u64 ((shr x1 32) * (Go.bits .and .u64 y2 4294967295))) + (shr (u64 ((Go.bits .and .u64 x1 4294967295) * (Go.bits .and .u64 y2 4294967295))) 32))) 4294967295) + (u64 ((Go.bits .and .u64 x1 4294967295) * (shr y2 32))))) 32), .int .u64 (u64 ((u64 ((u64 ((shr x1 32) * (shr y2 32))) + (shr (u64 ((u64 ((shr x1 32) * (Go.bits .and .u64 y2 4294967295))) + (shr (u64 ((Go.bits .and .u64 x1 4294967295) * (Go.bits .and .u64 y2 4294967295))) 32))) 32))) + (shr (u64 ((Go.bits .and .u64 (u64 ((u64 ((shr x1 32) * (Go.bits .and .u64 y2 4294967295))) + (shr (u64 ((Go.bits .and .u64 x1 4294967295) * (Go.bits .and .u64 y2 4294967295))) 32))) 4294967295) + (u64 ((Go.bits .and .u64 x1 4294967295) * (shr y2 32))))) 32))), undef, undef, undef], []⟩) (by kernel_rfl) ?_
  refine wpList_nil ?_
  refine hK24 _ _ ?_
  refine wp_seq_k (fun K25 hK26 => ?_)
  refine wp_region_lit ?_
  refine seqS4 (a' := ⟨#[.int .u64 x1, .int .u64 y2, undef, undef, .int .u64 (u64 ((u64 ((u64 ((shr x1 32) * (shr y2 32))) + (shr (u64 ((u64 ((shr x1 32) * (Go.bits .and .u64 y2 4294967295))) + (shr (u64 ((Go.bits .and .u64 x1 4294967295) * (Go.bits .and .u64 y2 4294967295))) 32))) 32))) + (shr (u64 ((Go.bits .and .u64 (u64 ((u64 ((shr x1 32) * (Go.bits .and .u64 y2 4294967295))) + (shr (u64 ((Go.bits .and .u64 x1 4294967295) * (Go.bits .and .u64 y2 4294967295))) 32))) 4294967295) + (u64 ((Go.bits .and .u64 x1 4294967295) * (shr y2 32))))) 32))), .int .u64 (u64 (x1 * y2)), .int .u64 (Go.bits .and .u64 x1 4294967295), .int .u64 (shr x1 32), .int .u64 (Go.bits .and .u64 y2 4294967295), .int .u64 (shr y2 32), .int .u64 (u64 ((Go.bits .and .u64 x1 4294967295) * (Go.bits .and .u64 y2 4294967295))), .int .u64 (u64 ((u64 ((shr x1 32) * (Go.bits .and .u64 y2 4294967295))) + (shr (u64 ((Go.bits .and .u64 x1 4294967295) * (Go.bits .and .u64 y2 4294967295))) 32))), .int .u64 (u64 ((Go.bits .and .u64 (u64 ((u64 ((shr x1 32) * (Go.bits .and .u64 y2 4294967295))) + (shr (u64 ((Go.bits .and .u64 x1 4294967295) * (Go.bits .and .u64 y2 4294967295))) 32))) 4294967295) + (u64 ((Go.bits .and .u64 x1 4294967295) * (shr y2 32))))), .int .u64 (shr (u64 ((u64 ((shr x1 32) * (Go.bits .and .u64 y2 4294967295))) + (shr (u64 ((Go.bits .and .u64 x1 4294967295) * (Go.bits .and .u64 y2 4294967295))) 32))) 32), .int .u64 x1, .int .u64 (Go.bits .and .u64 x1 4294967295), .int .u64 x1, .int .u64 (shr x1 32), .int .u64 y2, .int .u64 (Go.bits .and .u64 y2 4294967295), .int .u64 y2, .int .u64 (shr y2 32), .int .u64 (Go.bits .and .u64 x1 4294967295), .int .u64 (Go.bits .and .u64 y2 4294967295), .int .u64 (u64 ((Go.bits .and .u64 x1 4294967295) * (Go.bits .and .u64 y2 4294967295))), .int .u64 (shr x1 32), .int .u64 (Go.bits .and .u64 y2 4294967295), .int .u64 (u64 ((shr x1 32) * (Go.bits .and .u64 y2 4294967295))), .int .u64 (u64 ((Go.bits .and .u64 x1 4294967295) * (Go.bits .and .u64 y2 4294967295))), .int .u64 (shr (u64 ((Go.bits .and .u64 x1 4294967295) * (Go.bits .and .u64 y2 4294967295))) 32), .int .u64 (u64 ((u64 ((shr x1 32) * (Go.bits .and .u64 y2 4294967295))) + (shr (u64 ((Go.bits .and .u64 x1 4294967295) * (Go.bits .and .u64 y2 4294967295))) 32))), .int .u64 (u64 ((u64 ((shr x1 32) * (Go.bits .and .u64 y2 4294967295))) + (shr (u64 ((Go.bits .and .u64 x1 4294967295) * (Go.bits .and .u64 y2 4294967295))) 32))), .int .u64 (Go.bits .and .u64 (u64 ((u64 ((shr x1 32) * (Go.bits .and .u64 y2 4294967295))) + (shr (u64 ((Go.bits .and .u64 x1 4294967295) * (Go.bits .and .u64 y2 4294967295))) 32))) 4294967295), .int .u64 (u64 ((u64 ((shr x1 32) * (Go.bits .and .u64 y2 4294967295))) + (shr (u64 ((Go.bits .and .u64 x1 4294967295) * (Go.bits .and .u64 y2 4294967295))) 32))), .int .u64 (shr (u64 ((u64 ((shr x1 32) * (Go.bits .and .u64 y2 4294967295))) + (shr (u64 ((Go.bits .and .u64 x1 4294967295) * (Go.bits .and .u64 y2 4294967295))) 32))) 32), .int .u64 (Go.bits .and .u64 (u64 ((u64 ((shr x1 32) * (Go.bits .and .u64 y2 4294967295))) + (shr (u64 ((Go.bits .and .u64 x1 4294967295) * (Go.bits .and .u64 y2 4294967295))) 32))) 4294967295), .int .u64 (Go.bits .and .u64 x1 4294967295), .int .u64 (shr y2 32), .int .u64 (u64 ((Go.bits .and .u64 x1 4294967295) * (shr y2 32))), .int .u64 (u64 ((Go.bits .and .u64 (u64 ((u64 ((shr x1 32) * (Go.bits .and .u64 y2 4294967295))) + (shr (u64 ((Go.bits .and .u64 x1 4294967295) * (Go.bits .and .u64 y2 4294967295))) 32))) 4294967295) + (u64 ((Go.bits .and .u64 x1 4294967295) * (shr y2 32))))), .int .u64 (shr x1 32), .int .u64 (shr y2 32), .int .u64 (u64 ((shr x1 32) * (shr y2 32))), .int .u64 (shr (u64 ((u64 ((shr x1 32) * (Go.bits .and .u64 y2 4294967295))) + (shr (u64 ((Go.bits .and .u64 x1 4294967295) * (Go.bits .and .u64 y2 4294967295))) 32))) 32), .int .u64 (u64 ((u64 ((shr x1 32) * (shr y2 32))) + (shr (u64 ((u64 ((shr x1 32) * (Go.bits .and .u64 y2 4294967295))) + (shr (u64 ((Go.bits .and .u64 x1 4294967295) * (Go.bits .and .u64 y2 4294967295))) 32))) 32))), .int .u64 (u64 ((Go.bits .and .u64 (u64 ((u64 ((shr x1 32) * (Go.bits .and .u64 y2 4294967295))) + (shr (u64 ((Go.bits .and .u64 x1 4294967295) * (Go.bits .and .u64 y2 4294967295))) 32))) 4294967295) + (u64 ((Go.bits .and .u64 x1 4294967295) * (shr y2 32))))), .int .u64 (shr (u64 ((Go.bits .and .u64 (u64 ((u64 ((shr x1 32) * (Go.bits .and .u64 y2 4294967295))) + (shr (u64 ((Go.bits .and .u64 x1 4294967295) * (Go.bits .and .u64 y2 4294967295))) 32))) 4294967295) + (u64 ((Go.bits .and .u64 x1 4294967295) * (shr y2 32))))) 32), .int .u64 (u64 ((u64 ((u64 ((shr x1 32) * (shr y2 32))) + (shr (u64 ((u64 ((shr x1 32) * (Go.bits .and .u64 y2 4294967295))) + (shr (u64 ((Go.bits .and .u64 x1 4294967295) * (Go.bits .and .u64 y2 4294967295))) 32))) 32))) + (shr (u64 ((Go.bits .and .u64 (u64 ((u64 ((shr x1 32) * (Go.bits .and .u64 y2 4294967295))) + (shr (u64 ((Go.bits .and .u64 x1 4294967295) * (Go.bits .and .u64 y2 4294967295))) 32))) 4294967295) + (u64 ((Go.bits .and .u64 x1 4294967295) * (shr y2 32))))) 32))), .int .u64 x1, .int .u64 y2, .int .u64 (u64 (x1 * y2))], []⟩) (by kernel_rfl) ?_
  refine wpList_nil ?_
  refine hK26 _ _ ?_
  refine wp_ret ?_
  refine hret _ _ ?_
  refine ends_still (v := Value.tuple #[.int .u64 (u64 ((u64 ((u64 ((shr x1 32) * (shr y2 32))) + (shr (u64 ((u64 ((shr x1 32) * (Go.bits .and .u64 y2 4294967295))) + (shr (u64 ((Go.bits .and .u64 x1 4294967295) * (Go.bits .and .u64 y2 4294967295))) 32))) 32))) + (shr (u64 ((Go.bits .and .u64 (u64 ((u64 ((shr x1 32) * (Go.bits .and .u64 y2 4294967295))) + (shr (u64 ((Go.bits .and .u64 x1 4294967295) * (Go.bits .and .u64 y2 4294967295))) 32))) 4294967295) + (u64 ((Go.bits .and .u64 x1 4294967295) * (shr y2 32))))) 32))), .int .u64 (u64 (x1 * y2))]) (by kernel_rfl) (by kernel_rfl) ?_
  injection h with h
  injection h with h0_ h
  subst h0_ h
  exact ⟨f, rfl, FM.le.refl _, HS⟩

set_option maxRecDepth 100000 in
set_option maxHeartbeats 4000000 in
theorem bits_Mul.calls (k : Nat)  (x1 : Int) (y2 : Int) {t w : World} {f : FM} {H : List Seg} (HS : St t w f (H)) (r1 : Int) (r2 : Int) (h : bits_Mul k x1 y2 = some (r1, r2)) :
    Calls Try.prog 75 #[.int .u64 x1, .int .u64 y2] w (fun e w' => ∃ (g : FM), e = .returned (Value.tuple #[.int .u64 r1, .int .u64 r2]) ∧ FM.le f g ∧ St t w' g (H)) := by
  unfold bits_Mul at h
  refine enter Try.func75 rfl (tm := #[.int .u64 x1, .int .u64 y2, undef, undef, undef, undef, undef, undef, undef, undef, undef, undef, undef, undef, undef, undef, undef, undef, undef, undef, undef, undef, undef, undef, undef, undef, undef, undef, undef, undef]) (by kernel_rfl) ?_
  intro B hret hnor hnp
  refine wp_seq_k (fun K3 hK4 => ?_)
  refine wp_region_lit ?_
  refine seqS2 (a' := ⟨#[.int .u64 x1, .int .u64 y2, undef, undef, .int .u64 0, .int .u64 0, undef, undef, undef, undef, undef, undef, undef, undef, undef, undef, undef, undef, undef, undef, undef, undef, undef, undef, undef, undef, undef, undef, undef, undef], []⟩) (by kernel_rfl) ?_
  refine wpList_nil ?_
  refine hK4 _ _ ?_
  refine wp_seq_k (fun K5 hK6 => ?_)
  refine condF (by kernel_rfl) ?_
  refine wp_skip ?_
  refine hK6 _ _ ?_
  refine wp_seq_k (fun K7 hK8 => ?_)
  refine wp_region_lit ?_
  have hq_ := bind_some h; clear h; obtain ⟨⟨vt9, vt10⟩, hc11, h⟩ := hq_
  refine seqL2 (by kernel_rfl) ?_
  refine seqK rfl (does_call (f := 97) (args := #[.int .u64 x1, .int .u64 y2]) (by kernel_rfl) (bits_Mul64.calls k x1 y2 HS vt9 vt10 hc11) ?_)
  rintro _ W14 ⟨f12, rfl, L13, HS15⟩
  refine ⟨_, rfl, ?_⟩
  refine seqS5 (a' := ⟨#[.int .u64 x1, .int .u64 y2, undef, undef, .int .u64 0, .int .u64 0, undef, undef, .int .u64 vt9, .int .u64 vt10, undef, undef, undef, undef, undef, undef, undef, undef, undef, undef, undef, undef, .tuple #[.int .u64 vt9, .int .u64 vt10], .int .u64 x1, .int .u64 y2, .tuple #[.int .u64 vt9, .int .u64 vt10], .int .u64 vt9, .int .u64 vt10, undef, undef], []⟩) (by kernel_rfl) ?_
  refine wpList_nil ?_
  refine hK8 _ _ ?_
  refine wp_seq_k (fun K16 hK17 => ?_)
  refine wp_region_lit ?_
  refine seqS4 (a' := ⟨#[.int .u64 x1, .int .u64 y2, undef, undef, .int .u64 vt9, .int .u64 vt10, undef, undef, .int .u64 vt9, .int .u64 vt10, undef, undef, undef, undef, undef, undef, undef, undef, undef, undef, undef, undef, .tuple #[.int .u64 vt9, .int .u64 vt10], .int .u64 x1, .int .u64 y2, .tuple #[.int .u64 vt9, .int .u64 vt10], .int .u64 vt9, .int .u64 vt10, .int .u64 vt9, .int .u64 vt10], []⟩) (by kernel_rfl) ?_
  refine wpList_nil ?_
  refine hK17 _ _ ?_
  refine wp_ret ?_
  refine hret _ _ ?_
  refine ends_still (v := Value.tuple #[.int .u64 vt9, .int .u64 vt10]) (by kernel_rfl) (by kernel_rfl) ?_
  injection h with h
  injection h with h0_ h
  subst h0_ h
  exact ⟨f12, rfl, L13, HS15⟩

set_option maxRecDepth 100000 in
set_option maxHeartbeats 4000000 in
theorem slices_Repeat_Cells.calls (k : Nat) (A2 : Option Addr) (c3 : Nat) (x1 : List S_Cells) (count5 : Int) {t w : World} {f : FM} {H : List Seg} (HS : St t w f (H)) (HR4 : SlR ty_Cells f A2 c3 x1) (r1 : List S_Cells) (h : slices_Repeat_Cells k x1 count5 = some r1) :
    Calls Try.prog 39 #[.slice A2 x1.length c3, .int .i64 count5] w (fun e w' => ∃ (g : FM) (A134 : Option Addr) (c135 : Nat) (s136 : Seg), e = .returned (Value.slice A134 r1.length c135) ∧ FM.le f g ∧ St t w' g (s136 :: H) ∧ Own ty_Cells 34 g A134 c135 s136 r1) := by
  unfold slices_Repeat_Cells at h
  refine enter Try.func39 rfl (tm := #[.slice A2 x1.length c3, .int .i64 count5, undef, undef, undef, undef, undef, undef, undef, undef, undef, undef, undef, undef, undef, undef, undef, undef, undef, undef, undef, undef, undef, undef, undef, undef, undef, undef, undef, undef, undef, undef, undef, undef, undef, undef, undef, undef, undef, undef, undef, undef, undef, undef, undef, undef, undef, undef]) (by kernel_rfl) ?_
  intro B hret hnor hnp
  refine wp_seq_k (fun K6 hK7 => ?_)
  refine wp_region_lit ?_
  refine seqS1 (a' := ⟨#[.slice A2 x1.length c3, .int .i64 count5, undef, undef, .slice none 0 0, undef, undef, undef, undef, undef, undef, undef, undef, undef, undef, undef, undef, undef, undef, undef, undef, undef, undef, undef, undef, undef, undef, undef, undef, undef, undef, undef, undef, undef, undef, undef, undef, undef, undef, undef, undef, undef, undef, undef, undef, undef, undef, undef], []⟩) (by kernel_rfl) ?_
  refine wpList_nil ?_
  refine hK7 _ _ ?_
  refine wp_seq_k (fun K8 hK9 => ?_)
  refine wp_seq_k (fun K10 hK11 => ?_)
  refine wp_region_lit ?_
  refine seqS2 (a' := ⟨#[.slice A2 x1.length c3, .int .i64 count5, undef, undef, .slice none 0 0, undef, undef, undef, undef, .int .i64 count5, .bool (decide (count5 < 0)), undef, undef, undef, undef, undef, undef, undef, undef, undef, undef, undef, undef, undef, undef, undef, undef, undef, undef, undef, undef, undef, undef, undef, undef, undef, undef, undef, undef, undef, undef, undef, undef, undef, undef, undef, undef, undef], []⟩) (by kernel_rfl) ?_
  refine wpList_nil ?_
  refine hK11 _ _ ?_
  have hq_ := ite_some h; clear h; rcases hq_ with ⟨c13, h⟩ | ⟨c13, h⟩
  · have c13 : count5 < 0 := c13
    refine wpRwI 10 (x := (decide (count5 < 0))) (v := true) (by kernel_rfl) (decide_eq_true c13) ?_
    refine condT (by kernel_rfl) ?_
    exact nomatch h
  · have c13 : ¬ (count5 < 0) := c13
    refine wpRwI 10 (x := (decide (count5 < 0))) (v := false) (by kernel_rfl) (decide_eq_false c13) ?_
    refine condF (by kernel_rfl) ?_
    refine wp_skip ?_
    refine hK9 _ _ ?_
    refine wp_seq_k (fun K14 hK15 => ?_)
    refine wp_region_lit ?_
    have hq_ := bind_some h; clear h; obtain ⟨⟨vt16, vt17⟩, hc18, h⟩ := hq_
    refine seqL5 (by kernel_rfl) ?_
    refine seqK rfl (does_call (f := 75) (args := #[.int .u64 (u64 ((x1.length : Int))), .int .u64 (u64 (count5))]) (by kernel_rfl) (bits_Mul.calls k (u64 ((x1.length : Int))) (u64 (count5)) HS vt16 vt17 hc18) ?_)
    rintro _ W21 ⟨f19, rfl, L20, HS22⟩
    refine ⟨_, rfl, ?_⟩
    refine seqS5 (a' := ⟨#[.slice A2 x1.length c3, .int .i64 count5, undef, undef, .slice none 0 0, .int .u64 vt16, .int .u64 vt17, undef, undef, .int .i64 count5, .bool false, undef, .tuple #[.int .u64 vt16, .int .u64 vt17], .slice A2 x1.length c3, .int .i64 (x1.length : Int), .int .u64 (u64 ((x1.length : Int))), .int .i64 count5, .int .u64 (u64 (count5)), .tuple #[.int .u64 vt16, .int .u64 vt17], .int .u64 vt16, .int .u64 vt17, undef, undef, undef, undef, undef, undef, undef, undef, undef, undef, undef, undef, undef, undef, undef, undef, undef, undef, undef, undef, undef, undef, undef, undef, undef, undef, undef], []⟩) (by kernel_rfl) ?_
    refine wpList_nil ?_
    refine hK15 _ _ ?_
    refine wp_seq_k (fun K23 hK24 => ?_)
    refine wp_seq_k (fun K25 hK26 => ?_)
    refine wp_region_lit ?_
    refine seqS3 (a' := ⟨#[.slice A2 x1.length c3, .int .i64 count5, undef, undef, .slice none 0 0, .int .u64 vt16, .int .u64 vt17, undef, undef, .int .i64 count5, .bool false, undef, .tuple #[.int .u64 vt16, .int .u64 vt17], .slice A2 x1.length c3, .int .i64 (x1.length : Int), .int .u64 (u64 ((x1.length : Int))), .int .i64 count5, .int .u64 (u64 (count5)), .tuple #[.int .u64 vt16, .int .u64 vt17], .int .u64 vt16, .int .u64 vt17, .int .u64 vt16, .bool (decide (vt16 > 0)), .bool (decide (vt16 > 0)), undef, undef, undef, undef, undef, undef, undef, undef, undef, undef, undef, undef, undef, undef, undef, undef, undef, undef, undef, undef, undef, undef, undef, undef], []⟩) (by kernel_rfl) ?_
    have hq_ := ite_some h; clear h; rcases hq_ with ⟨c27, h⟩ | ⟨c27, h⟩
    · have c27 : vt16 > 0 := c27
      refine seqRwI 22 (x := (decide (vt16 > 0))) (v := true) (by kernel_rfl) (decide_eq_true c27) ?_
      refine seqRwI 23 (x := (decide (vt16 > 0))) (v := true) (by kernel_rfl) (decide_eq_true c27) ?_
      refine seqS3 (a' := ⟨#[.slice A2 x1.length c3, .int .i64 count5, undef, undef, .slice none 0 0, .int .u64 vt16, .int .u64 vt17, undef, undef, .int .i64 count5, .bool false, undef, .tuple #[.int .u64 vt16, .int .u64 vt17], .slice A2 x1.length c3, .int .i64 (x1.length : Int), .int .u64 (u64 ((x1.length : Int))), .int .i64 count5, .int .u64 (u64 (count5)), .tuple #[.int .u64 vt16, .int .u64 vt17], .int .u64 vt16, .int .u64 vt17, .int .u64 vt16, .bool true, .bool true, undef, undef, .bool true, undef, undef, undef, undef, undef, undef, undef, undef, undef, undef, undef, undef, undef, undef, undef, undef, undef, undef, undef, undef, undef], []⟩) (by kernel_rfl) ?_
      refine wpList_nil ?_
      refine hK26 _ _ ?_
      refine condT (by kernel_rfl) ?_
      exact nomatch h
    · have c27 : ¬ (vt16 > 0) := c27
      refine seqRwI 22 (x := (decide (vt16 > 0))) (v := false) (by kernel_rfl) (decide_eq_false c27) ?_
      refine seqRwI 23 (x := (decide (vt16 > 0))) (v := false) (by kernel_rfl) (decide_eq_false c27) ?_
      refine seqS3 (a' := ⟨#[.slice A2 x1.length c3, .int .i64 count5, undef, undef, .slice none 0 0, .int .u64 vt16, .int .u64 vt17, undef, undef, .int .i64 count5, .bool false, undef, .tuple #[.int .u64 vt16, .int .u64 vt17], .slice A2 x1.length c3, .int .i64 (x1.length : Int), .int .u64 (u64 ((x1.length : Int))), .int .i64 count5, .int .u64 (u64 (count5)), .tuple #[.int .u64 vt16, .int .u64 vt17], .int .u64 vt16, .int .u64 vt17, .int .u64 vt16, .bool false, .bool false, .int .u64 vt17, .bool (decide (vt17 > 9223372036854775807)), .bool (decide (vt17 > 9223372036854775807)), undef, undef, undef, undef, undef, undef, undef, undef, undef, undef, undef, undef, undef, undef, undef, undef, undef, undef, undef, undef, undef], []⟩) (by kernel_rfl) ?_
      refine wpList_nil ?_
      refine hK26 _ _ ?_
      have hq_ := ite_some h; clear h; rcases hq_ with ⟨c29, h⟩ | ⟨c29, h⟩
      · have c29 : vt17 > 9223372036854775807 := c29
        refine wpRwI 25 (x := (decide (vt17 > 9223372036854775807))) (v := true) (by kernel_rfl) (decide_eq_true c29) ?_
        refine wpRwI 26 (x := (decide (vt17 > 9223372036854775807))) (v := true) (by kernel_rfl) (decide_eq_true c29) ?_
        refine condT (by kernel_rfl) ?_
        exact nomatch h
      · have c29 : ¬ (vt17 > 9223372036854775807) := c29
        refine wpRwI 25 (x := (decide (vt17 > 9223372036854775807))) (v := false) (by kernel_rfl) (decide_eq_false c29) ?_
        refine wpRwI 26 (x := (decide (vt17 > 9223372036854775807))) (v := false) (by kernel_rfl) (decide_eq_false c29) ?_
        refine condF (by kernel_rfl) ?_
        refine wp_skip ?_
        refine hK24 _ _ ?_
        refine wp_seq_k (fun K30 hK31 => ?_)
        refine wp_region_lit ?_
        have hq_ := guard_some h; clear h; obtain ⟨c32, h⟩ := hq_
        have c32 : 0 ≤ (w64 (vt17)) := c32
        have hq_ := guard_some h; clear h; obtain ⟨c33, h⟩ := hq_
        have c33 : (w64 (vt17)) * 40 ≤ 140737488355328 := c33
        refine seqL2 (by kernel_rfl) ?_
        refine seqK rfl (does_make (e := ty_Cells) (E := 34) (u := (⟨0, 0, ([] : List S_Bound)⟩ : S_Cells)) (n := w64 (vt17)) rfl (by kernel_rfl : _ = Value.int .i64 (w64 (vt17))) (by kernel_rfl : _ = Value.int .i64 (w64 (vt17))) Try.underlying27 inf34 c32 c33 (by omega) ⟨none, 0, rfl, SlR.nil _ _⟩ HS22 ?_)
        intro b34 W35 s36 HS37 HO38
        refine seqS1 (a' := ⟨#[.slice A2 x1.length c3, .int .i64 count5, undef, undef, .slice none 0 0, .int .u64 vt16, .int .u64 vt17, .slice (some ⟨b34, 0, none⟩) (List.replicate (w64 (vt17)).toNat ((⟨0, 0, ([] : List S_Bound)⟩ : S_Cells) : S_Cells)).length (w64 (vt17)).toNat, undef, .int .i64 count5, .bool false, undef, .tuple #[.int .u64 vt16, .int .u64 vt17], .slice A2 x1.length c3, .int .i64 (x1.length : Int), .int .u64 (u64 ((x1.length : Int))), .int .i64 count5, .int .u64 (u64 (count5)), .tuple #[.int .u64 vt16, .int .u64 vt17], .int .u64 vt16, .int .u64 vt17, .int .u64 vt16, .bool false, .bool false, .int .u64 vt17, .bool false, .bool false, undef, .int .u64 vt17, .int .i64 (w64 (vt17)), .slice (some ⟨b34, 0, none⟩) (List.replicate (w64 (vt17)).toNat ((⟨0, 0, ([] : List S_Bound)⟩ : S_Cells) : S_Cells)).length (w64 (vt17)).toNat, undef, undef, undef, undef, undef, undef, undef, undef, undef, undef, undef, undef, undef, undef, undef, undef, undef], []⟩) (by kernel_rfl) ?_
        refine wpList_nil ?_
        refine hK31 _ _ ?_
        refine wp_seq_k (fun K40 hK41 => ?_)
        refine wp_region_lit ?_
        refine seqL2 (by kernel_rfl) ?_
        refine seqK rfl (does_copy0 (e := ty_Cells) (E := 34) (A := (some ⟨b34, 0, none⟩)) (c := (w64 (vt17)).toNat) (xs := (List.replicate (w64 (vt17)).toNat ((⟨0, 0, ([] : List S_Bound)⟩ : S_Cells) : S_Cells))) (ys := x1) rfl Try.underlying27 inf34.size (by kernel_rfl : _ = Value.slice (some ⟨b34, 0, none⟩) (List.replicate (w64 (vt17)).toNat ((⟨0, 0, ([] : List S_Bound)⟩ : S_Cells) : S_Cells)).length (w64 (vt17)).toNat) (by kernel_rfl : _ = Value.slice A2 x1.length c3) HO38 HS37 ((HR4.mono L20).rc HS37) ?_)
        intro W42 s43 HS44 HO45
        refine seqRwS 7 (A := (some ⟨b34, 0, none⟩)) (m := (List.replicate (w64 (vt17)).toNat ((⟨0, 0, ([] : List S_Bound)⟩ : S_Cells) : S_Cells)).length) (n := (cpy (List.replicate (w64 (vt17)).toNat ((⟨0, 0, ([] : List S_Bound)⟩ : S_Cells) : S_Cells)) 0 x1).length) (c := (w64 (vt17)).toNat) (by kernel_rfl) (cpy_len0).symm ?_
        refine seqRwS 30 (A := (some ⟨b34, 0, none⟩)) (m := (List.replicate (w64 (vt17)).toNat ((⟨0, 0, ([] : List S_Bound)⟩ : S_Cells) : S_Cells)).length) (n := (cpy (List.replicate (w64 (vt17)).toNat ((⟨0, 0, ([] : List S_Bound)⟩ : S_Cells) : S_Cells)) 0 x1).length) (c := (w64 (vt17)).toNat) (by kernel_rfl) (cpy_len0).symm ?_
        refine seqRwS 31 (A := (some ⟨b34, 0, none⟩)) (m := (List.replicate (w64 (vt17)).toNat ((⟨0, 0, ([] : List S_Bound)⟩ : S_Cells) : S_Cells)).length) (n := (cpy (List.replicate (w64 (vt17)).toNat ((⟨0, 0, ([] : List S_Bound)⟩ : S_Cells) : S_Cells)) 0 x1).length) (c := (w64 (vt17)).toNat) (by kernel_rfl) (cpy_len0).symm ?_
        refine seqS1 (a' := ⟨#[.slice A2 x1.length c3, .int .i64 count5, undef, undef, .slice none 0 0, .int .u64 vt16, .int .u64 vt17, .slice (some ⟨b34, 0, none⟩) (cpy (List.replicate (w64 (vt17)).toNat ((⟨0, 0, ([] : List S_Bound)⟩ : S_Cells) : S_Cells)) 0 x1).length (w64 (vt17)).toNat, .int .i64 ((min x1.length ((List.replicate (w64 (vt17)).toNat ((⟨0, 0, ([] : List S_Bound)⟩ : S_Cells) : S_Cells)).length - 0) : Nat) : Int), .int .i64 count5, .bool false, undef, .tuple #[.int .u64 vt16, .int .u64 vt17], .slice A2 x1.length c3, .int .i64 (x1.length : Int), .int .u64 (u64 ((x1.length : Int))), .int .i64 count5, .int .u64 (u64 (count5)), .tuple #[.int .u64 vt16, .int .u64 vt17], .int .u64 vt16, .int .u64 vt17, .int .u64 vt16, .bool false, .bool false, .int .u64 vt17, .bool false, .bool false, undef, .int .u64 vt17, .int .i64 (w64 (vt17)), .slice (some ⟨b34, 0, none⟩) (cpy (List.replicate (w64 (vt17)).toNat ((⟨0, 0, ([] : List S_Bound)⟩ : S_Cells) : S_Cells)) 0 x1).length (w64 (vt17)).toNat, .slice (some ⟨b34, 0, none⟩) (cpy (List.replicate (w64 (vt17)).toNat ((⟨0, 0, ([] : List S_Bound)⟩ : S_Cells) : S_Cells)) 0 x1).length (w64 (vt17)).toNat, .slice A2 x1.length c3, .int .i64 ((min x1.length ((List.replicate (w64 (vt17)).toNat ((⟨0, 0, ([] : List S_Bound)⟩ : S_Cells) : S_Cells)).length - 0) : Nat) : Int), undef, undef, undef, undef, undef, undef, undef, undef, undef, undef, undef, undef, undef, undef], []⟩) (by kernel_rfl) ?_
        refine wpList_nil ?_
        refine hK41 _ _ ?_
        refine wp_seq_k (fun K46 hK47 => ?_)
        refine blockK (fun B48 hx49 hn50 hr51 ho52 hp53 => ?_)
        have hq_ := bind_some h; clear h; obtain ⟨o85, hv129, h⟩ := hq_
        have J130 : ∀ (f120 : FM) (s126 : Seg) (newslice125 : List S_Cells) (j124 : Nat → Value) (W122 : World) (a_ : Act), FM.le f19 f120 → some (newslice125) = some o85 → St t W122 f120 (s126 :: H) → Own ty_Cells 34 f120 (some ⟨b34, 0, none⟩) (w64 (vt17)).toNat s126 newslice125 → newslice125.length = (cpy (List.replicate (w64 (vt17)).toNat ((⟨0, 0, ([] : List S_Bound)⟩ : S_Cells) : S_Cells)) 0 x1).length → a_ = ⟨#[.slice A2 x1.length c3, .int .i64 count5, undef, undef, .slice none 0 0, .int .u64 vt16, .int .u64 vt17, .slice (some ⟨b34, 0, none⟩) newslice125.length (w64 (vt17)).toNat, (j124 0), .int .i64 count5, .bool false, undef, .tuple #[.int .u64 vt16, .int .u64 vt17], .slice A2 x1.length c3, .int .i64 (x1.length : Int), .int .u64 (u64 ((x1.length : Int))), .int .i64 count5, .int .u64 (u64 (count5)), .tuple #[.int .u64 vt16, .int .u64 vt17], .int .u64 vt16, .int .u64 vt17, .int .u64 vt16, .bool false, .bool false, .int .u64 vt17, .bool false, .bool false, undef, .int .u64 vt17, .int .i64 (w64 (vt17)), (j124 1), (j124 2), .slice A2 x1.length c3, .int .i64 ((min x1.length ((List.replicate (w64 (vt17)).toNat ((⟨0, 0, ([] : List S_Bound)⟩ : S_Cells) : S_Cells)).length - 0) : Nat) : Int), (j124 3), (j124 4), (j124 5), (j124 6), (j124 7), (j124 8), (j124 9), (j124 10), (j124 11), (j124 12), (j124 13), (j124 14), (j124 15), undef], []⟩ → K46 a_ W122 := by
          intro f120 s126 newslice125 j124 W122 a_ L121 hj131 HS123 HO127 HL128 hfr_; subst hfr_
          injection hj131 with hj131; subst hj131; try dsimp only at h
          refine hK47 _ _ ?_
          refine wp_seq_k (fun K132 hK133 => ?_)
          refine wp_region_lit ?_
          refine seqS2 (a' := ⟨#[.slice A2 x1.length c3, .int .i64 count5, undef, undef, .slice (some ⟨b34, 0, none⟩) newslice125.length (w64 (vt17)).toNat, .int .u64 vt16, .int .u64 vt17, .slice (some ⟨b34, 0, none⟩) newslice125.length (w64 (vt17)).toNat, (j124 0), .int .i64 count5, .bool false, undef, .tuple #[.int .u64 vt16, .int .u64 vt17], .slice A2 x1.length c3, .int .i64 (x1.length : Int), .int .u64 (u64 ((x1.length : Int))), .int .i64 count5, .int .u64 (u64 (count5)), .tuple #[.int .u64 vt16, .int .u64 vt17], .int .u64 vt16, .int .u64 vt17, .int .u64 vt16, .bool false, .bool false, .int .u64 vt17, .bool false, .bool false, undef, .int .u64 vt17, .int .i64 (w64 (vt17)), (j124 1), (j124 2), .slice A2 x1.length c3, .int .i64 ((min x1.length ((List.replicate (w64 (vt17)).toNat ((⟨0, 0, ([] : List S_Bound)⟩ : S_Cells) : S_Cells)).length - 0) : Nat) : Int), (j124 3), (j124 4), (j124 5), (j124 6), (j124 7), (j124 8), (j124 9), (j124 10), (j124 11), (j124 12), (j124 13), (j124 14), (j124 15), .slice (some ⟨b34, 0, none⟩) newslice125.length (w64 (vt17)).toNat], []⟩) (by kernel_rfl) ?_
          refine wpList_nil ?_
          refine hK133 _ _ ?_
          refine wp_ret ?_
          refine hret _ _ ?_
          refine ends_still (v := Value.slice (some ⟨b34, 0, none⟩) newslice125.length (w64 (vt17)).toNat) (by kernel_rfl) (by kernel_rfl) ?_
          injection h with h
          subst h
          exact ⟨f120, (some ⟨b34, 0, none⟩), ((w64 (vt17)).toNat), s126, rfl, (L20.trans L121), HS123, HO127⟩
        clear h; have h := hv129; clear hv129
        refine loopK (fun n_ a_ w_ => ∃ (f89 : FM) (s95 : Seg) (newslice94 : List S_Cells) (n98 : Int) (j93 : Nat → Value), FM.le f19 f89 ∧ St t w_ f89 (s95 :: H) ∧ Own ty_Cells 34 f89 (some ⟨b34, 0, none⟩) (w64 (vt17)).toNat s95 newslice94 ∧ newslice94.length = (cpy (List.replicate (w64 (vt17)).toNat ((⟨0, 0, ([] : List S_Bound)⟩ : S_Cells) : S_Cells)) 0 x1).length ∧ slices_Repeat_Cells.l0 k n_ newslice94 n98 = some o85 ∧ a_ = ⟨#[.slice A2 x1.length c3, .int .i64 count5, undef, undef, .slice none 0 0, .int .u64 vt16, .int .u64 vt17, .slice (some ⟨b34, 0, none⟩) newslice94.length (w64 (vt17)).toNat, .int .i64 n98, .int .i64 count5, .bool false, undef, .tuple #[.int .u64 vt16, .int .u64 vt17], .slice A2 x1.length c3, .int .i64 (x1.length : Int), .int .u64 (u64 ((x1.length : Int))), .int .i64 count5, .int .u64 (u64 (count5)), .tuple #[.int .u64 vt16, .int .u64 vt17], .int .u64 vt16, .int .u64 vt17, .int .u64 vt16, .bool false, .bool false, .int .u64 vt17, .bool false, .bool false, undef, .int .u64 vt17, .int .i64 (w64 (vt17)), .slice (some ⟨b34, 0, none⟩) (cpy (List.replicate (w64 (vt17)).toNat ((⟨0, 0, ([] : List S_Bound)⟩ : S_Cells) : S_Cells)) 0 x1).length (w64 (vt17)).toNat, .slice (some ⟨b34, 0, none⟩) (cpy (List.replicate (w64 (vt17)).toNat ((⟨0, 0, ([] : List S_Bound)⟩ : S_Cells) : S_Cells)) 0 x1).length (w64 (vt17)).toNat, .slice A2 x1.length c3, .int .i64 ((min x1.length ((List.replicate (w64 (vt17)).toNat ((⟨0, 0, ([] : List S_Bound)⟩ : S_Cells) : S_Cells)).length - 0) : Nat) : Int), (j93 0), (j93 1), (j93 2), (j93 3), (j93 4), (j93 5), (j93 6), (j93 7), (j93 8), (j93 9), (j93 10), (j93 11), (j93 12), undef], []⟩) k ⟨f19, s43, (cpy (List.replicate (w64 (vt17)).toNat ((⟨0, 0, ([] : List S_Bound)⟩ : S_Cells) : S_Cells)) 0 x1), ((min x1.length ((List.replicate (w64 (vt17)).toNat ((⟨0, 0, ([] : List S_Bound)⟩ : S_Cells) : S_Cells)).length - 0) : Nat) : Int), (fun i_ => [undef, undef, undef, undef, undef, undef, undef, undef, undef, undef, undef, undef, undef].getD i_ undef), (FM.le.refl _), HS44, HO45, rfl, h, (by kernel_rfl)⟩ ?_
        clear h
        rintro n88 _ W91 ⟨f89, s95, newslice94, n98, j93, L90, HS92, HO96, HL97, h, rfl⟩ K86 hK87
        obtain _ | n88 := n88
        · exact nomatch h
        simp only [slices_Repeat_Cells.l0] at h
        refine wp_seq_k (fun K99 hK100 => ?_)
        refine wp_seq_k (fun K101 hK102 => ?_)
        refine wp_region_lit ?_
        refine seqS4 (a' := ⟨#[.slice A2 x1.length c3, .int .i64 count5, undef, undef, .slice none 0 0, .int .u64 vt16, .int .u64 vt17, .slice (some ⟨b34, 0, none⟩) newslice94.length (w64 (vt17)).toNat, .int .i64 n98, .int .i64 count5, .bool false, undef, .tuple #[.int .u64 vt16, .int .u64 vt17], .slice A2 x1.length c3, .int .i64 (x1.length : Int), .int .u64 (u64 ((x1.length : Int))), .int .i64 count5, .int .u64 (u64 (count5)), .tuple #[.int .u64 vt16, .int .u64 vt17], .int .u64 vt16, .int .u64 vt17, .int .u64 vt16, .bool false, .bool false, .int .u64 vt17, .bool false, .bool false, undef, .int .u64 vt17, .int .i64 (w64 (vt17)), .slice (some ⟨b34, 0, none⟩) (cpy (List.replicate (w64 (vt17)).toNat ((⟨0, 0, ([] : List S_Bound)⟩ : S_Cells) : S_Cells)) 0 x1).length (w64 (vt17)).toNat, .slice (some ⟨b34, 0, none⟩) (cpy (List.replicate (w64 (vt17)).toNat ((⟨0, 0, ([] : List S_Bound)⟩ : S_Cells) : S_Cells)) 0 x1).length (w64 (vt17)).toNat, .slice A2 x1.length c3, .int .i64 ((min x1.length ((List.replicate (w64 (vt17)).toNat ((⟨0, 0, ([] : List S_Bound)⟩ : S_Cells) : S_Cells)).length - 0) : Nat) : Int), .int .i64 n98, .slice (some ⟨b34, 0, none⟩) newslice94.length (w64 (vt17)).toNat, .int .i64 (newslice94.length : Int), .bool (decide (n98 < (newslice94.length : Int))), (j93 4), (j93 5), (j93 6), (j93 7), (j93 8), (j93 9), (j93 10), (j93 11), (j93 12), undef], []⟩) (by kernel_rfl) ?_
        refine wpList_nil ?_
        refine hK102 _ _ ?_
        have hq_ := ite_some h; clear h; rcases hq_ with ⟨c104, h⟩ | ⟨c104, h⟩
        · have c104 : n98 < (newslice94.length : Int) := c104
          refine wpRwI 37 (x := (decide (n98 < (newslice94.length : Int)))) (v := true) (by kernel_rfl) (decide_eq_true c104) ?_
          refine condT (by kernel_rfl) ?_
          refine wp_skip ?_
          refine hK100 _ _ ?_
          refine blockK (fun B105 hx106 hn107 hr108 ho109 hp110 => ?_)
          refine heldG (S := Sg t f89 (H) [(7, s95)]) (n := 10) (by kernel_rfl) rfl HS92 ?_
          intro W112 HS113
          have hq_ := guard_some h; clear h; obtain ⟨c114, h⟩ := hq_
          have c114 : 0 ≤ n98 := c114
          have hq_ := guard_some h; clear h; obtain ⟨c115, h⟩ := hq_
          have c115 : n98 ≤ (newslice94.length : Int) := c115
          refine takeG [0, 1, 2] (n := 10) (fuel := 7) (l' := #[true, true, true, false, false, false, false, false, false, false]) (a' := ⟨#[.slice A2 x1.length c3, .int .i64 count5, undef, undef, .slice none 0 0, .int .u64 vt16, .int .u64 vt17, .slice (some ⟨b34, 0, none⟩) newslice94.length (w64 (vt17)).toNat, .int .i64 n98, .int .i64 count5, .bool false, undef, .tuple #[.int .u64 vt16, .int .u64 vt17], .slice A2 x1.length c3, .int .i64 (x1.length : Int), .int .u64 (u64 ((x1.length : Int))), .int .i64 count5, .int .u64 (u64 (count5)), .tuple #[.int .u64 vt16, .int .u64 vt17], .int .u64 vt16, .int .u64 vt17, .int .u64 vt16, .bool false, .bool false, .int .u64 vt17, .bool false, .bool false, undef, .int .u64 vt17, .int .i64 (w64 (vt17)), .slice (some ⟨b34, 0, none⟩) (cpy (List.replicate (w64 (vt17)).toNat ((⟨0, 0, ([] : List S_Bound)⟩ : S_Cells) : S_Cells)) 0 x1).length (w64 (vt17)).toNat, .slice (some ⟨b34, 0, none⟩) (cpy (List.replicate (w64 (vt17)).toNat ((⟨0, 0, ([] : List S_Bound)⟩ : S_Cells) : S_Cells)) 0 x1).length (w64 (vt17)).toNat, .slice A2 x1.length c3, .int .i64 ((min x1.length ((List.replicate (w64 (vt17)).toNat ((⟨0, 0, ([] : List S_Bound)⟩ : S_Cells) : S_Cells)).length - 0) : Nat) : Int), .int .i64 n98, .slice (some ⟨b34, 0, none⟩) newslice94.length (w64 (vt17)).toNat, .int .i64 (newslice94.length : Int), .bool true, .int .i64 n98, .slice (some ⟨b34, 0, none⟩) newslice94.length (w64 (vt17)).toNat, .int .i64 n98, (j93 7), (j93 8), (j93 9), (j93 10), (j93 11), (j93 12), undef], []⟩) rfl (by kernel_rfl) (by kernel_rfl) (by kernel_rfl) (fun ch_ a_ w_ q_ => (fun ch_ a_ w_ q_ => hnp ch_ a_ w_ (hp53 ch_ a_ w_ q_)) ch_ a_ w_ (hp110 ch_ a_ w_ q_)) (Sg.g1 (Sx.of [s95] (FM.le.refl _) HS113) (fun _ => St.only [] HS113 (FM.le.refl _))) ?_
          refine takeGQ 3 [] rfl (by kernel_rfl) (by kernel_rfl) (by kernel_rfl) (by kernel_rfl) (by kernel_rfl) (by kernel_rfl) (fun ch_ a_ w_ q_ => (fun ch_ a_ w_ q_ => hnp ch_ a_ w_ (hp53 ch_ a_ w_ q_)) ch_ a_ w_ (hp110 ch_ a_ w_ q_)) (Sg.g1 (Sx.of [s95] (FM.le.refl _) HS113) (fun _ => St.only [] HS113 (FM.le.refl _))) (fun w_ hw_ => by obtain ⟨g_, hl_, hS_⟩ := hw_.st; exact run_cutV (e := ty_Cells) (xs := newslice94) rfl Try.underlying27 (by kernel_rfl) (by kernel_rfl : _ = Value.slice (some ⟨b34, 0, none⟩) newslice94.length (w64 (vt17)).toNat) (by kernel_rfl : _ = Value.int .i64 n98) c114 c115 HO96.le w_) ?_
          refine takeG [4, 5] (n := 6) (fuel := 4) (l' := #[true, true, true, true, true, true, false, false, false, false]) (a' := ⟨#[.slice A2 x1.length c3, .int .i64 count5, undef, undef, .slice none 0 0, .int .u64 vt16, .int .u64 vt17, .slice (some ⟨b34, 0, none⟩) newslice94.length (w64 (vt17)).toNat, .int .i64 n98, .int .i64 count5, .bool false, undef, .tuple #[.int .u64 vt16, .int .u64 vt17], .slice A2 x1.length c3, .int .i64 (x1.length : Int), .int .u64 (u64 ((x1.length : Int))), .int .i64 count5, .int .u64 (u64 (count5)), .tuple #[.int .u64 vt16, .int .u64 vt17], .int .u64 vt16, .int .u64 vt17, .int .u64 vt16, .bool false, .bool false, .int .u64 vt17, .bool false, .bool false, undef, .int .u64 vt17, .int .i64 (w64 (vt17)), .slice (some ⟨b34, 0, none⟩) (cpy (List.replicate (w64 (vt17)).toNat ((⟨0, 0, ([] : List S_Bound)⟩ : S_Cells) : S_Cells)) 0 x1).length (w64 (vt17)).toNat, .slice (some ⟨b34, 0, none⟩) (cpy (List.replicate (w64 (vt17)).toNat ((⟨0, 0, ([] : List S_Bound)⟩ : S_Cells) : S_Cells)) 0 x1).length (w64 (vt17)).toNat, .slice A2 x1.length c3, .int .i64 ((min x1.length ((List.replicate (w64 (vt17)).toNat ((⟨0, 0, ([] : List S_Bound)⟩ : S_Cells) : S_Cells)).length - 0) : Nat) : Int), .int .i64 n98, .slice (some ⟨b34, 0, none⟩) newslice94.length (w64 (vt17)).toNat, .int .i64 (newslice94.length : Int), .bool true, .int .i64 n98, .slice (some ⟨b34, 0, none⟩) newslice94.length (w64 (vt17)).toNat, .int .i64 n98, .slice (cutA (some ⟨b34, 0, none⟩) ((w64 (vt17)).toNat) (n98).toNat 3) (newslice94.drop (n98).toNat).length ((w64 (vt17)).toNat - (n98).toNat), .slice (some ⟨b34, 0, none⟩) newslice94.length (w64 (vt17)).toNat, .int .i64 n98, (j93 10), (j93 11), (j93 12), undef], []⟩) rfl (by kernel_rfl) (by kernel_rfl) (by kernel_rfl) (fun ch_ a_ w_ q_ => (fun ch_ a_ w_ q_ => hnp ch_ a_ w_ (hp53 ch_ a_ w_ q_)) ch_ a_ w_ (hp110 ch_ a_ w_ q_)) (Sg.g1 (Sx.of [s95] (FM.le.refl _) HS113) (fun _ => St.only [] HS113 (FM.le.refl _))) ?_
          refine takeGQ 6 [] rfl (by kernel_rfl) (by kernel_rfl) (by kernel_rfl) (by kernel_rfl) (by kernel_rfl) (by kernel_rfl) (fun ch_ a_ w_ q_ => (fun ch_ a_ w_ q_ => hnp ch_ a_ w_ (hp53 ch_ a_ w_ q_)) ch_ a_ w_ (hp110 ch_ a_ w_ q_)) (Sg.g1 (Sx.of [s95] (FM.le.refl _) HS113) (fun _ => St.only [] HS113 (FM.le.refl _))) (fun w_ hw_ => by obtain ⟨g_, hl_, hS_⟩ := hw_.st; exact run_cutH (e := ty_Cells) (xs := newslice94) rfl Try.underlying27 (by kernel_rfl) (by kernel_rfl : _ = Value.slice (some ⟨b34, 0, none⟩) newslice94.length (w64 (vt17)).toNat) (by kernel_rfl : _ = Value.int .i64 n98) c114 c115 HO96.le w_) ?_
          refine takeGE 7 (by kernel_rfl) rfl (by kernel_rfl) (does_copy (n := (n98).toNat) (e := ty_Cells) (E := 34) (A := (some ⟨b34, 0, none⟩)) (c := (w64 (vt17)).toNat) (xs := newslice94) (ys := (newslice94.take (n98).toNat)) rfl Try.underlying27 inf34.size (by kernel_rfl : _ = Value.slice (cutA (some ⟨b34, 0, none⟩) ((w64 (vt17)).toNat) (n98).toNat 3) (newslice94.drop (n98).toNat).length ((w64 (vt17)).toNat - (n98).toNat)) (by kernel_rfl : _ = Value.slice (some ⟨b34, 0, none⟩) (newslice94.take (n98).toNat).length (w64 (vt17)).toNat) rfl (by omega) HO96 HS113 ((HO96.take _).rc HS113) ?_)
          intro W116 s117 HS118 HO119
          refine ⟨(Sg.g1 (Sx.of [s117] (FM.le.refl _) HS118) (fun hl_ => Bool.noConfusion (show true = false from hl_))), ?_⟩
          refine gateRwS 7 (A := (some ⟨b34, 0, none⟩)) (m := newslice94.length) (n := (cpy newslice94 (n98).toNat (newslice94.take (n98).toNat)).length) (c := (w64 (vt17)).toNat) (by kernel_rfl) ((cpy_lenI c114 c115)).symm ?_
          refine gateRwS 35 (A := (some ⟨b34, 0, none⟩)) (m := newslice94.length) (n := (cpy newslice94 (n98).toNat (newslice94.take (n98).toNat)).length) (c := (w64 (vt17)).toNat) (by kernel_rfl) ((cpy_lenI c114 c115)).symm ?_
          refine gateRwS 39 (A := (some ⟨b34, 0, none⟩)) (m := newslice94.length) (n := (cpy newslice94 (n98).toNat (newslice94.take (n98).toNat)).length) (c := (w64 (vt17)).toNat) (by kernel_rfl) ((cpy_lenI c114 c115)).symm ?_
          refine gateRwS 42 (A := (some ⟨b34, 0, none⟩)) (m := newslice94.length) (n := (cpy newslice94 (n98).toNat (newslice94.take (n98).toNat)).length) (c := (w64 (vt17)).toNat) (by kernel_rfl) ((cpy_lenI c114 c115)).symm ?_
          refine takeG [8, 9] (n := 2) (fuel := 0) (l' := #[true, true, true, true, true, true, true, true, true, true]) (a' := ⟨#[.slice A2 x1.length c3, .int .i64 count5, undef, undef, .slice none 0 0, .int .u64 vt16, .int .u64 vt17, .slice (some ⟨b34, 0, none⟩) (cpy newslice94 (n98).toNat (newslice94.take (n98).toNat)).length (w64 (vt17)).toNat, .int .i64 (w64 (n98 + ((min (newslice94.take (n98).toNat).length (newslice94.length - (n98).toNat) : Nat) : Int))), .int .i64 count5, .bool false, undef, .tuple #[.int .u64 vt16, .int .u64 vt17], .slice A2 x1.length c3, .int .i64 (x1.length : Int), .int .u64 (u64 ((x1.length : Int))), .int .i64 count5, .int .u64 (u64 (count5)), .tuple #[.int .u64 vt16, .int .u64 vt17], .int .u64 vt16, .int .u64 vt17, .int .u64 vt16, .bool false, .bool false, .int .u64 vt17, .bool false, .bool false, undef, .int .u64 vt17, .int .i64 (w64 (vt17)), .slice (some ⟨b34, 0, none⟩) (cpy (List.replicate (w64 (vt17)).toNat ((⟨0, 0, ([] : List S_Bound)⟩ : S_Cells) : S_Cells)) 0 x1).length (w64 (vt17)).toNat, .slice (some ⟨b34, 0, none⟩) (cpy (List.replicate (w64 (vt17)).toNat ((⟨0, 0, ([] : List S_Bound)⟩ : S_Cells) : S_Cells)) 0 x1).length (w64 (vt17)).toNat, .slice A2 x1.length c3, .int .i64 ((min x1.length ((List.replicate (w64 (vt17)).toNat ((⟨0, 0, ([] : List S_Bound)⟩ : S_Cells) : S_Cells)).length - 0) : Nat) : Int), .int .i64 n98, .slice (some ⟨b34, 0, none⟩) (cpy newslice94 (n98).toNat (newslice94.take (n98).toNat)).length (w64 (vt17)).toNat, .int .i64 (newslice94.length : Int), .bool true, .int .i64 n98, .slice (some ⟨b34, 0, none⟩) (cpy newslice94 (n98).toNat (newslice94.take (n98).toNat)).length (w64 (vt17)).toNat, .int .i64 n98, .slice (cutA (some ⟨b34, 0, none⟩) ((w64 (vt17)).toNat) (n98).toNat 3) (newslice94.drop (n98).toNat).length ((w64 (vt17)).toNat - (n98).toNat), .slice (some ⟨b34, 0, none⟩) (cpy newslice94 (n98).toNat (newslice94.take (n98).toNat)).length (w64 (vt17)).toNat, .int .i64 n98, .slice (some ⟨b34, 0, none⟩) (newslice94.take (n98).toNat).length (w64 (vt17)).toNat, .int .i64 ((min (newslice94.take (n98).toNat).length (newslice94.length - (n98).toNat) : Nat) : Int), .int .i64 (w64 (n98 + ((min (newslice94.take (n98).toNat).length (newslice94.length - (n98).toNat) : Nat) : Int))), undef], []⟩) rfl (by kernel_rfl) (by kernel_rfl) (by kernel_rfl) (fun ch_ a_ w_ q_ => (fun ch_ a_ w_ q_ => hnp ch_ a_ w_ (hp53 ch_ a_ w_ q_)) ch_ a_ w_ (hp110 ch_ a_ w_ q_)) (Sg.g1 (Sx.of [s117] (FM.le.refl _) HS118) (fun hl_ => Bool.noConfusion (show true = false from hl_))) ?_
          refine doneG (by kernel_rfl) ?_ _
          refine hn107 _ _ ?_
          refine hK87 n88 _ _ (Nat.lt_succ_self _) ?_
          exact ⟨f89, s117, (cpy newslice94 (n98).toNat (newslice94.take (n98).toNat)), (w64 (n98 + ((min (newslice94.take (n98).toNat).length (newslice94.length - (n98).toNat) : Nat) : Int))), (fun i_ => [Value.int .i64 n98, Value.slice (some ⟨b34, 0, none⟩) (cpy newslice94 (n98).toNat (newslice94.take (n98).toNat)).length (w64 (vt17)).toNat, Value.int .i64 (newslice94.length : Int), Value.bool true, Value.int .i64 n98, Value.slice (some ⟨b34, 0, none⟩) (cpy newslice94 (n98).toNat (newslice94.take (n98).toNat)).length (w64 (vt17)).toNat, Value.int .i64 n98, Value.slice (cutA (some ⟨b34, 0, none⟩) ((w64 (vt17)).toNat) (n98).toNat 3) (newslice94.drop (n98).toNat).length ((w64 (vt17)).toNat - (n98).toNat), Value.slice (some ⟨b34, 0, none⟩) (cpy newslice94 (n98).toNat (newslice94.take (n98).toNat)).length (w64 (vt17)).toNat, Value.int .i64 n98, Value.slice (some ⟨b34, 0, none⟩) (newslice94.take (n98).toNat).length (w64 (vt17)).toNat, Value.int .i64 ((min (newslice94.take (n98).toNat).length (newslice94.length - (n98).toNat) : Nat) : Int), Value.int .i64 (w64 (n98 + ((min (newslice94.take (n98).toNat).length (newslice94.length - (n98).toNat) : Nat) : Int)))].getD i_ undef), L90, HS118, HO119, ((cpy_lenI c114 c115).trans HL97), h, (by kernel_rfl)⟩
        · have c104 : ¬ (n98 < (newslice94.length : Int)) := c104
          refine wpRwI 37 (x := (decide (n98 < (newslice94.length : Int)))) (v := false) (by kernel_rfl) (decide_eq_false c104) ?_
          refine condF (by kernel_rfl) ?_
          refine wp_exit ?_
          refine hx49 _ _ ?_
          exact J130 f89 s95 newslice94 (fun i_ => [Value.int .i64 n98, Value.slice (some ⟨b34, 0, none⟩) (cpy (List.replicate (w64 (vt17)).toNat ((⟨0, 0, ([] : List S_Bound)⟩ : S_Cells) : S_Cells)) 0 x1).length (w64 (vt17)).toNat, Value.slice (some ⟨b34, 0, none⟩) (cpy (List.replicate (w64 (vt17)).toNat ((⟨0, 0, ([] : List S_Bound)⟩ : S_Cells) : S_Cells)) 0 x1).length (w64 (vt17)).toNat, Value.int .i64 n98, Value.slice (some ⟨b34, 0, none⟩) newslice94.length (w64 (vt17)).toNat, Value.int .i64 (newslice94.length : Int), Value.bool false, (j93 4), (j93 5), (j93 6), (j93 7), (j93 8), (j93 9), (j93 10), (j93 11), (j93 12)].getD i_ undef) W91 _ L90 h HS92 HO96 HL97 (by kernel_rfl)

set_option maxRecDepth 100000 in
set_option maxHeartbeats 4000000 in
theorem bound_Check_Quanta.calls (k : Nat)  (b1 : S_Bound) {t w : World} {f : FM} {H : List Seg} (HS : St t w f (H)) (r1 : Int) (h : bound_Check_Quanta k b1 = some r1) :
    Calls Try.prog 71 #[.agg #[.int .i64 b1.Lo, .int .i64 b1.Hi, .bool b1.Unknown]] w (fun e w' => ∃ (g : FM), e = .returned (Value.int .i64 r1) ∧ FM.le f g ∧ St t w' g (H)) := by
  unfold bound_Check_Quanta at h
  refine enter Try.func71 rfl (tm := #[.agg #[.int .i64 b1.Lo, .int .i64 b1.Hi, .bool b1.Unknown], undef, undef, undef, undef, undef, undef, undef, undef, undef, undef, undef, undef, undef, undef, undef, undef, undef, undef, undef, undef, undef, undef, undef, undef, undef, undef, undef, undef, undef, undef, undef, undef, undef, undef, undef, undef]) (by kernel_rfl) ?_
  intro B hret hnor hnp
  refine wp_seq_k (fun K2 hK3 => ?_)
  refine wp_region_lit ?_
  refine seqK rfl (does_box (cs := #[.int .i64 b1.Lo, .int .i64 b1.Hi, .bool b1.Unknown]) rfl (by kernel_rfl : _ = Value.agg #[.int .i64 b1.Lo, .int .i64 b1.Hi, .bool b1.Unknown]) rfl HS ?_)
  intro b4 W5 HS6
  refine seqS1 (a' := ⟨#[.agg #[.int .i64 b1.Lo, .int .i64 b1.Hi, .bool b1.Unknown], .pointer (some ⟨b4, 0, none⟩), .int .i64 0, undef, undef, undef, undef, undef, undef, undef, undef, undef, undef, undef, undef, undef, undef, undef, undef, undef, undef, undef, undef, undef, undef, undef, undef, undef, undef, undef, undef, undef, undef, undef, undef, undef, undef], []⟩) (by kernel_rfl) ?_
  refine wpList_nil ?_
  refine hK3 _ _ ?_
  refine wp_seq_k (fun K8 hK9 => ?_)
  refine blockK (fun B10 hx11 hn12 hr13 ho14 hp15 => ?_)
  refine wp_seq_k (fun K17 hK18 => ?_)
  refine wp_region_lit ?_
  refine seqL1 (by kernel_rfl) ?_
  refine seqK rfl (does_run (run_load rfl Try.underlying4 rfl (by kernel_rfl : _ = Value.pointer (some ⟨b4, 2, none⟩)) (HS6.cell 2)) ?_)
  refine seqS1 (a' := ⟨#[.agg #[.int .i64 b1.Lo, .int .i64 b1.Hi, .bool b1.Unknown], .pointer (some ⟨b4, 0, none⟩), .int .i64 0, undef, .pointer (some ⟨b4, 2, none⟩), .bool b1.Unknown, .bool b1.Unknown, undef, undef, undef, undef, undef, undef, undef, undef, undef, undef, undef, undef, undef, undef, undef, undef, undef, undef, undef, undef, undef, undef, undef, undef, undef, undef, undef, undef, undef, undef], []⟩) (by kernel_rfl) ?_
  have hq_ := ite_some h; clear h; rcases hq_ with ⟨c19, h⟩ | ⟨c19, h⟩
  · have c19 : b1.Unknown = true := c19
    refine seqRwI 5 (x := b1.Unknown) (v := true) (by kernel_rfl) c19 ?_
    refine seqRwI 6 (x := b1.Unknown) (v := true) (by kernel_rfl) c19 ?_
    refine seqL1 (by kernel_rfl) ?_
    refine seqG (by kernel_rfl) (does_run (run_load rfl Try.underlying42 rfl (by kernel_rfl : _ = Value.pointer (some ⟨b4, 0, none⟩)) (HS6.cell 0)) ?_)
    refine seqS2 (a' := ⟨#[.agg #[.int .i64 b1.Lo, .int .i64 b1.Hi, .bool b1.Unknown], .pointer (some ⟨b4, 0, none⟩), .int .i64 0, undef, .pointer (some ⟨b4, 2, none⟩), .bool true, .bool true, .pointer (some ⟨b4, 0, none⟩), .int .i64 b1.Lo, .bool (b1.Lo != 0), .bool (b1.Lo != 0), undef, undef, undef, undef, undef, undef, undef, undef, undef, undef, undef, undef, undef, undef, undef, undef, undef, undef, undef, undef, undef, undef, undef, undef, undef, undef], []⟩) (by kernel_rfl) ?_
    have hq_ := ite_some h; clear h; rcases hq_ with ⟨c20, h⟩ | ⟨c20, h⟩
    · have c20 : b1.Lo ≠ 0 := c20
      refine seqRwI 9 (x := (b1.Lo != 0)) (v := true) (by kernel_rfl) (bne_iff_ne.mpr c20) ?_
      refine seqRwI 10 (x := (b1.Lo != 0)) (v := true) (by kernel_rfl) (bne_iff_ne.mpr c20) ?_
      refine seqS6 (a' := ⟨#[.agg #[.int .i64 b1.Lo, .int .i64 b1.Hi, .bool b1.Unknown], .pointer (some ⟨b4, 0, none⟩), .int .i64 0, .bool true, .pointer (some ⟨b4, 2, none⟩), .bool true, .bool true, .pointer (some ⟨b4, 0, none⟩), .int .i64 b1.Lo, .bool true, .bool true, undef, undef, undef, .bool true, .bool true, undef, undef, undef, undef, undef, undef, undef, undef, undef, undef, undef, undef, undef, undef, undef, undef, undef, undef, undef, undef, undef], []⟩) (by kernel_rfl) ?_
      refine wpList_nil ?_
      refine hK18 _ _ ?_
      refine condT (by kernel_rfl) ?_
      refine wp_seq_k (fun K21 hK22 => ?_)
      refine wp_region_lit ?_
      refine seqS1 (a' := ⟨#[.agg #[.int .i64 b1.Lo, .int .i64 b1.Hi, .bool b1.Unknown], .pointer (some ⟨b4, 0, none⟩), .int .i64 3, .bool true, .pointer (some ⟨b4, 2, none⟩), .bool true, .bool true, .pointer (some ⟨b4, 0, none⟩), .int .i64 b1.Lo, .bool true, .bool true, undef, undef, undef, .bool true, .bool true, undef, undef, undef, undef, undef, undef, undef, undef, undef, undef, undef, undef, undef, undef, undef, undef, undef, undef, undef, undef, undef], []⟩) (by kernel_rfl) ?_
      refine wpList_nil ?_
      refine hK22 _ _ ?_
      refine wp_ret ?_
      refine hr13 _ _ ?_
      refine hret _ _ ?_
      refine ends_still (v := Value.int .i64 3) (by kernel_rfl) (by kernel_rfl) ?_
      have HS61 := HS6.drop
      injection h with h
      subst h
      exact ⟨f, rfl, FM.le.refl _, HS61⟩
    · have c20 : ¬ (b1.Lo ≠ 0) := c20
      refine seqRwI 9 (x := (b1.Lo != 0)) (v := false) (by kernel_rfl) (bne_eq_false_iff_eq.mpr (Decidable.of_not_not c20)) ?_
      refine seqRwI 10 (x := (b1.Lo != 0)) (v := false) (by kernel_rfl) (bne_eq_false_iff_eq.mpr (Decidable.of_not_not c20)) ?_
      refine seqL1 (by kernel_rfl) ?_
      refine seqG (by kernel_rfl) (does_run (run_load rfl Try.underlying42 rfl (by kernel_rfl : _ = Value.pointer (some ⟨b4, 1, none⟩)) (HS6.cell 1)) ?_)
      refine seqS4 (a' := ⟨#[.agg #[.int .i64 b1.Lo, .int .i64 b1.Hi, .bool b1.Unknown], .pointer (some ⟨b4, 0, none⟩), .int .i64 0, .bool (b1.Hi != 0), .pointer (some ⟨b4, 2, none⟩), .bool true, .bool true, .pointer (some ⟨b4, 0, none⟩), .int .i64 b1.Lo, .bool false, .bool false, .pointer (some ⟨b4, 1, none⟩), .int .i64 b1.Hi, .bool (b1.Hi != 0), .bool (b1.Hi != 0), .bool (b1.Hi != 0), undef, undef, undef, undef, undef, undef, undef, undef, undef, undef, undef, undef, undef, undef, undef, undef, undef, undef, undef, undef, undef], []⟩) (by kernel_rfl) ?_
      refine wpList_nil ?_
      refine hK18 _ _ ?_
      have hq_ := ite_some h; clear h; rcases hq_ with ⟨c24, h⟩ | ⟨c24, h⟩
      · have c24 : b1.Hi ≠ 0 := c24
        refine wpRwI 3 (x := (b1.Hi != 0)) (v := true) (by kernel_rfl) (bne_iff_ne.mpr c24) ?_
        refine wpRwI 13 (x := (b1.Hi != 0)) (v := true) (by kernel_rfl) (bne_iff_ne.mpr c24) ?_
        refine wpRwI 14 (x := (b1.Hi != 0)) (v := true) (by kernel_rfl) (bne_iff_ne.mpr c24) ?_
        refine wpRwI 15 (x := (b1.Hi != 0)) (v := true) (by kernel_rfl) (bne_iff_ne.mpr c24) ?_
        refine condT (by kernel_rfl) ?_
        refine wp_seq_k (fun K25 hK26 => ?_)
        refine wp_region_lit ?_
        refine seqS1 (a' := ⟨#[.agg #[.int .i64 b1.Lo, .int .i64 b1.Hi, .bool b1.Unknown], .pointer (some ⟨b4, 0, none⟩), .int .i64 3, .bool true, .pointer (some ⟨b4, 2, none⟩), .bool true, .bool true, .pointer (some ⟨b4, 0, none⟩), .int .i64 b1.Lo, .bool false, .bool false, .pointer (some ⟨b4, 1, none⟩), .int .i64 b1.Hi, .bool true, .bool true, .bool true, undef, undef, undef, undef, undef, undef, undef, undef, undef, undef, undef, undef, undef, undef, undef, undef, undef, undef, undef, undef, undef], []⟩) (by kernel_rfl) ?_
        refine wpList_nil ?_
        refine hK26 _ _ ?_
        refine wp_ret ?_
        refine hr13 _ _ ?_
        refine hret _ _ ?_
        refine ends_still (v := Value.int .i64 3) (by kernel_rfl) (by kernel_rfl) ?_
        have HS62 := HS6.drop
        injection h with h
        subst h
        exact ⟨f, rfl, FM.le.refl _, HS62⟩
      · have c24 : ¬ (b1.Hi ≠ 0) := c24
        refine wpRwI 3 (x := (b1.Hi != 0)) (v := false) (by kernel_rfl) (bne_eq_false_iff_eq.mpr (Decidable.of_not_not c24)) ?_
        refine wpRwI 13 (x := (b1.Hi != 0)) (v := false) (by kernel_rfl) (bne_eq_false_iff_eq.mpr (Decidable.of_not_not c24)) ?_
        refine wpRwI 14 (x := (b1.Hi != 0)) (v := false) (by kernel_rfl) (bne_eq_false_iff_eq.mpr (Decidable.of_not_not c24)) ?_
        refine wpRwI 15 (x := (b1.Hi != 0)) (v := false) (by kernel_rfl) (bne_eq_false_iff_eq.mpr (Decidable.of_not_not c24)) ?_
        refine condF (by kernel_rfl) ?_
        refine wp_seq_k (fun K27 hK28 => ?_)
        refine wp_region_lit ?_
        refine seqL1 (by kernel_rfl) ?_
        refine seqK rfl (does_run (run_load rfl Try.underlying42 rfl (by kernel_rfl : _ = Value.pointer (some ⟨b4, 0, none⟩)) (HS6.cell 0)) ?_)
        refine seqL1 (by kernel_rfl) ?_
        refine seqK rfl (does_run (run_load rfl Try.underlying42 rfl (by kernel_rfl : _ = Value.pointer (some ⟨b4, 1, none⟩)) (HS6.cell 1)) ?_)
        refine seqS3 (a' := ⟨#[.agg #[.int .i64 b1.Lo, .int .i64 b1.Hi, .bool b1.Unknown], .pointer (some ⟨b4, 0, none⟩), .int .i64 0, .bool false, .pointer (some ⟨b4, 2, none⟩), .bool true, .bool true, .pointer (some ⟨b4, 0, none⟩), .int .i64 b1.Lo, .bool false, .bool false, .pointer (some ⟨b4, 1, none⟩), .int .i64 b1.Hi, .bool false, .bool false, .bool false, undef, .pointer (some ⟨b4, 0, none⟩), .int .i64 b1.Lo, .pointer (some ⟨b4, 1, none⟩), .int .i64 b1.Hi, .int .i64 (mn b1.Lo b1.Hi), .bool (decide ((mn b1.Lo b1.Hi) < (-1152921504606846976))), .bool (decide ((mn b1.Lo b1.Hi) < (-1152921504606846976))), undef, undef, undef, undef, undef, undef, undef, undef, undef, undef, undef, undef, undef], []⟩) (by kernel_rfl) ?_
        have hq_ := ite_some h; clear h; rcases hq_ with ⟨c29, h⟩ | ⟨c29, h⟩
        · have c29 : (mn b1.Lo b1.Hi) < (-1152921504606846976) := c29
          refine seqRwI 22 (x := (decide ((mn b1.Lo b1.Hi) < (-1152921504606846976)))) (v := true) (by kernel_rfl) (decide_eq_true c29) ?_
          refine seqRwI 23 (x := (decide ((mn b1.Lo b1.Hi) < (-1152921504606846976)))) (v := true) (by kernel_rfl) (decide_eq_true c29) ?_
          refine seqS8 (a' := ⟨#[.agg #[.int .i64 b1.Lo, .int .i64 b1.Hi, .bool b1.Unknown], .pointer (some ⟨b4, 0, none⟩), .int .i64 0, .bool false, .pointer (some ⟨b4, 2, none⟩), .bool true, .bool true, .pointer (some ⟨b4, 0, none⟩), .int .i64 b1.Lo, .bool false, .bool false, .pointer (some ⟨b4, 1, none⟩), .int .i64 b1.Hi, .bool false, .bool false, .bool false, .bool true, .pointer (some ⟨b4, 0, none⟩), .int .i64 b1.Lo, .pointer (some ⟨b4, 1, none⟩), .int .i64 b1.Hi, .int .i64 (mn b1.Lo b1.Hi), .bool true, .bool true, undef, undef, undef, undef, undef, undef, .bool true, undef, undef, undef, undef, undef, undef], []⟩) (by kernel_rfl) ?_
          refine wpList_nil ?_
          refine hK28 _ _ ?_
          refine condT (by kernel_rfl) ?_
          refine wp_seq_k (fun K30 hK31 => ?_)
          refine wp_region_lit ?_
          refine seqS1 (a' := ⟨#[.agg #[.int .i64 b1.Lo, .int .i64 b1.Hi, .bool b1.Unknown], .pointer (some ⟨b4, 0, none⟩), .int .i64 4, .bool false, .pointer (some ⟨b4, 2, none⟩), .bool true, .bool true, .pointer (some ⟨b4, 0, none⟩), .int .i64 b1.Lo, .bool false, .bool false, .pointer (some ⟨b4, 1, none⟩), .int .i64 b1.Hi, .bool false, .bool false, .bool false, .bool true, .pointer (some ⟨b4, 0, none⟩), .int .i64 b1.Lo, .pointer (some ⟨b4, 1, none⟩), .int .i64 b1.Hi, .int .i64 (mn b1.Lo b1.Hi), .bool true, .bool true, undef, undef, undef, undef, undef, undef, .bool true, undef, undef, undef, undef, undef, undef], []⟩) (by kernel_rfl) ?_
          refine wpList_nil ?_
          refine hK31 _ _ ?_
          refine wp_ret ?_
          refine hr13 _ _ ?_
          refine hret _ _ ?_
          refine ends_still (v := Value.int .i64 4) (by kernel_rfl) (by kernel_rfl) ?_
          have HS63 := HS6.drop
          injection h with h
          subst h
          exact ⟨f, rfl, FM.le.refl _, HS63⟩
        · have c29 : ¬ ((mn b1.Lo b1.Hi) < (-1152921504606846976)) := c29
          refine seqRwI 22 (x := (decide ((mn b1.Lo b1.Hi) < (-1152921504606846976)))) (v := false) (by kernel_rfl) (decide_eq_false c29) ?_
          refine seqRwI 23 (x := (decide ((mn b1.Lo b1.Hi) < (-1152921504606846976)))) (v := false) (by kernel_rfl) (decide_eq_false c29) ?_
          refine seqL1 (by kernel_rfl) ?_
          refine seqG (by kernel_rfl) (does_run (run_load rfl Try.underlying42 rfl (by kernel_rfl : _ = Value.pointer (some ⟨b4, 0, none⟩)) (HS6.cell 0)) ?_)
          refine seqL1 (by kernel_rfl) ?_
          refine seqG (by kernel_rfl) (does_run (run_load rfl Try.underlying42 rfl (by kernel_rfl : _ = Value.pointer (some ⟨b4, 1, none⟩)) (HS6.cell 1)) ?_)
          refine seqS4 (a' := ⟨#[.agg #[.int .i64 b1.Lo, .int .i64 b1.Hi, .bool b1.Unknown], .pointer (some ⟨b4, 0, none⟩), .int .i64 0, .bool false, .pointer (some ⟨b4, 2, none⟩), .bool true, .bool true, .pointer (some ⟨b4, 0, none⟩), .int .i64 b1.Lo, .bool false, .bool false, .pointer (some ⟨b4, 1, none⟩), .int .i64 b1.Hi, .bool false, .bool false, .bool false, .bool (decide ((mx b1.Lo b1.Hi) > 1152921504606846976)), .pointer (some ⟨b4, 0, none⟩), .int .i64 b1.Lo, .pointer (some ⟨b4, 1, none⟩), .int .i64 b1.Hi, .int .i64 (mn b1.Lo b1.Hi), .bool false, .bool false, .pointer (some ⟨b4, 0, none⟩), .int .i64 b1.Lo, .pointer (some ⟨b4, 1, none⟩), .int .i64 b1.Hi, .int .i64 (mx b1.Lo b1.Hi), .bool (decide ((mx b1.Lo b1.Hi) > 1152921504606846976)), .bool (decide ((mx b1.Lo b1.Hi) > 1152921504606846976)), undef, undef, undef, undef, undef, undef], []⟩) (by kernel_rfl) ?_
          refine wpList_nil ?_
          refine hK28 _ _ ?_
          have hq_ := ite_some h; clear h; rcases hq_ with ⟨c33, h⟩ | ⟨c33, h⟩
          · have c33 : (mx b1.Lo b1.Hi) > 1152921504606846976 := c33
            refine wpRwI 16 (x := (decide ((mx b1.Lo b1.Hi) > 1152921504606846976))) (v := true) (by kernel_rfl) (decide_eq_true c33) ?_
            refine wpRwI 29 (x := (decide ((mx b1.Lo b1.Hi) > 1152921504606846976))) (v := true) (by kernel_rfl) (decide_eq_true c33) ?_
            refine wpRwI 30 (x := (decide ((mx b1.Lo b1.Hi) > 1152921504606846976))) (v := true) (by kernel_rfl) (decide_eq_true c33) ?_
            refine condT (by kernel_rfl) ?_
            refine wp_seq_k (fun K34 hK35 => ?_)
            refine wp_region_lit ?_
            refine seqS1 (a' := ⟨#[.agg #[.int .i64 b1.Lo, .int .i64 b1.Hi, .bool b1.Unknown], .pointer (some ⟨b4, 0, none⟩), .int .i64 4, .bool false, .pointer (some ⟨b4, 2, none⟩), .bool true, .bool true, .pointer (some ⟨b4, 0, none⟩), .int .i64 b1.Lo, .bool false, .bool false, .pointer (some ⟨b4, 1, none⟩), .int .i64 b1.Hi, .bool false, .bool false, .bool false, .bool true, .pointer (some ⟨b4, 0, none⟩), .int .i64 b1.Lo, .pointer (some ⟨b4, 1, none⟩), .int .i64 b1.Hi, .int .i64 (mn b1.Lo b1.Hi), .bool false, .bool false, .pointer (some ⟨b4, 0, none⟩), .int .i64 b1.Lo, .pointer (some ⟨b4, 1, none⟩), .int .i64 b1.Hi, .int .i64 (mx b1.Lo b1.Hi), .bool true, .bool true, undef, undef, undef, undef, undef, undef], []⟩) (by kernel_rfl) ?_
            refine wpList_nil ?_
            refine hK35 _ _ ?_
            refine wp_ret ?_
            refine hr13 _ _ ?_
            refine hret _ _ ?_
            refine ends_still (v := Value.int .i64 4) (by kernel_rfl) (by kernel_rfl) ?_
            have HS64 := HS6.drop
            injection h with h
            subst h
            exact ⟨f, rfl, FM.le.refl _, HS64⟩
          · have c33 : ¬ ((mx b1.Lo b1.Hi) > 1152921504606846976) := c33
            refine wpRwI 16 (x := (decide ((mx b1.Lo b1.Hi) > 1152921504606846976))) (v := false) (by kernel_rfl) (decide_eq_false c33) ?_
            refine wpRwI 29 (x := (decide ((mx b1.Lo b1.Hi) > 1152921504606846976))) (v := false) (by kernel_rfl) (decide_eq_false c33) ?_
            refine wpRwI 30 (x := (decide ((mx b1.Lo b1.Hi) > 1152921504606846976))) (v := false) (by kernel_rfl) (decide_eq_false c33) ?_
            refine condF (by kernel_rfl) ?_
            refine wp_seq_k (fun K36 hK37 => ?_)
            refine wp_region_lit ?_
            refine seqL1 (by kernel_rfl) ?_
            refine seqK rfl (does_run (run_load rfl Try.underlying42 rfl (by kernel_rfl : _ = Value.pointer (some ⟨b4, 0, none⟩)) (HS6.cell 0)) ?_)
            refine seqL1 (by kernel_rfl) ?_
            refine seqK rfl (does_run (run_load rfl Try.underlying42 rfl (by kernel_rfl : _ = Value.pointer (some ⟨b4, 1, none⟩)) (HS6.cell 1)) ?_)
            refine seqS2 (a' := ⟨#[.agg #[.int .i64 b1.Lo, .int .i64 b1.Hi, .bool b1.Unknown], .pointer (some ⟨b4, 0, none⟩), .int .i64 0, .bool false, .pointer (some ⟨b4, 2, none⟩), .bool true, .bool true, .pointer (some ⟨b4, 0, none⟩), .int .i64 b1.Lo, .bool false, .bool false, .pointer (some ⟨b4, 1, none⟩), .int .i64 b1.Hi, .bool false, .bool false, .bool false, .bool false, .pointer (some ⟨b4, 0, none⟩), .int .i64 b1.Lo, .pointer (some ⟨b4, 1, none⟩), .int .i64 b1.Hi, .int .i64 (mn b1.Lo b1.Hi), .bool false, .bool false, .pointer (some ⟨b4, 0, none⟩), .int .i64 b1.Lo, .pointer (some ⟨b4, 1, none⟩), .int .i64 b1.Hi, .int .i64 (mx b1.Lo b1.Hi), .bool false, .bool false, .bool (decide (b1.Lo > b1.Hi)), .pointer (some ⟨b4, 0, none⟩), .int .i64 b1.Lo, .pointer (some ⟨b4, 1, none⟩), .int .i64 b1.Hi, .bool (decide (b1.Lo > b1.Hi))], []⟩) (by kernel_rfl) ?_
            refine wpList_nil ?_
            refine hK37 _ _ ?_
            have hq_ := ite_some h; clear h; rcases hq_ with ⟨c39, h⟩ | ⟨c39, h⟩
            · have c39 : b1.Lo > b1.Hi := c39
              refine wpRwI 31 (x := (decide (b1.Lo > b1.Hi))) (v := true) (by kernel_rfl) (decide_eq_true c39) ?_
              refine wpRwI 36 (x := (decide (b1.Lo > b1.Hi))) (v := true) (by kernel_rfl) (decide_eq_true c39) ?_
              refine condT (by kernel_rfl) ?_
              refine wp_seq_k (fun K40 hK41 => ?_)
              refine wp_region_lit ?_
              refine seqS1 (a' := ⟨#[.agg #[.int .i64 b1.Lo, .int .i64 b1.Hi, .bool b1.Unknown], .pointer (some ⟨b4, 0, none⟩), .int .i64 11, .bool false, .pointer (some ⟨b4, 2, none⟩), .bool true, .bool true, .pointer (some ⟨b4, 0, none⟩), .int .i64 b1.Lo, .bool false, .bool false, .pointer (some ⟨b4, 1, none⟩), .int .i64 b1.Hi, .bool false, .bool false, .bool false, .bool false, .pointer (some ⟨b4, 0, none⟩), .int .i64 b1.Lo, .pointer (some ⟨b4, 1, none⟩), .int .i64 b1.Hi, .int .i64 (mn b1.Lo b1.Hi), .bool false, .bool false, .pointer (some ⟨b4, 0, none⟩), .int .i64 b1.Lo, .pointer (some ⟨b4, 1, none⟩), .int .i64 b1.Hi, .int .i64 (mx b1.Lo b1.Hi), .bool false, .bool false, .bool true, .pointer (some ⟨b4, 0, none⟩), .int .i64 b1.Lo, .pointer (some ⟨b4, 1, none⟩), .int .i64 b1.Hi, .bool true], []⟩) (by kernel_rfl) ?_
              refine wpList_nil ?_
              refine hK41 _ _ ?_
              refine wp_ret ?_
              refine hr13 _ _ ?_
              refine hret _ _ ?_
              refine ends_still (v := Value.int .i64 11) (by kernel_rfl) (by kernel_rfl) ?_
              have HS65 := HS6.drop
              injection h with h
              subst h
              exact ⟨f, rfl, FM.le.refl _, HS65⟩
            · have c39 : ¬ (b1.Lo > b1.Hi) := c39
              refine wpRwI 31 (x := (decide (b1.Lo > b1.Hi))) (v := false) (by kernel_rfl) (decide_eq_false c39) ?_
              refine wpRwI 36 (x := (decide (b1.Lo > b1.Hi))) (v := false) (by kernel_rfl) (decide_eq_false c39) ?_
              refine condF (by kernel_rfl) ?_
              refine wp_skip ?_
              refine hn12 _ _ ?_
              refine hK9 _ _ ?_
              refine wp_seq_k (fun K57 hK58 => ?_)
              refine wp_region_lit ?_
              refine seqS1 (a' := ⟨#[.agg #[.int .i64 b1.Lo, .int .i64 b1.Hi, .bool b1.Unknown], .pointer (some ⟨b4, 0, none⟩), .int .i64 0, .bool false, .pointer (some ⟨b4, 2, none⟩), .bool true, .bool true, .pointer (some ⟨b4, 0, none⟩), .int .i64 b1.Lo, .bool false, .bool false, .pointer (some ⟨b4, 1, none⟩), .int .i64 b1.Hi, .bool false, .bool false, .bool false, .bool false, .pointer (some ⟨b4, 0, none⟩), .int .i64 b1.Lo, .pointer (some ⟨b4, 1, none⟩), .int .i64 b1.Hi, .int .i64 (mn b1.Lo b1.Hi), .bool false, .bool false, .pointer (some ⟨b4, 0, none⟩), .int .i64 b1.Lo, .pointer (some ⟨b4, 1, none⟩), .int .i64 b1.Hi, .int .i64 (mx b1.Lo b1.Hi), .bool false, .bool false, .bool false, .pointer (some ⟨b4, 0, none⟩), .int .i64 b1.Lo, .pointer (some ⟨b4, 1, none⟩), .int .i64 b1.Hi, .bool false], []⟩) (by kernel_rfl) ?_
              refine wpList_nil ?_
              refine hK58 _ _ ?_
              refine wp_ret ?_
              refine hret _ _ ?_
              refine ends_still (v := Value.int .i64 0) (by kernel_rfl) (by kernel_rfl) ?_
              have HS69 := HS6.drop
              injection h with h
              subst h
              exact ⟨f, rfl, FM.le.refl _, HS69⟩
  · have c19 : ¬ (b1.Unknown = true) := c19
    refine seqRwI 5 (x := b1.Unknown) (v := false) (by kernel_rfl) (Bool.eq_false_iff.mpr c19) ?_
    refine seqRwI 6 (x := b1.Unknown) (v := false) (by kernel_rfl) (Bool.eq_false_iff.mpr c19) ?_
    refine seqS10 (a' := ⟨#[.agg #[.int .i64 b1.Lo, .int .i64 b1.Hi, .bool b1.Unknown], .pointer (some ⟨b4, 0, none⟩), .int .i64 0, .bool false, .pointer (some ⟨b4, 2, none⟩), .bool false, .bool false, undef, undef, undef, undef, undef, undef, undef, undef, .bool false, undef, undef, undef, undef, undef, undef, undef, undef, undef, undef, undef, undef, undef, undef, undef, undef, undef, undef, undef, undef, undef], []⟩) (by kernel_rfl) ?_
    refine wpList_nil ?_
    refine hK18 _ _ ?_
    refine condF (by kernel_rfl) ?_
    refine wp_seq_k (fun K42 hK43 => ?_)
    refine wp_region_lit ?_
    refine seqL1 (by kernel_rfl) ?_
    refine seqK rfl (does_run (run_load rfl Try.underlying42 rfl (by kernel_rfl : _ = Value.pointer (some ⟨b4, 0, none⟩)) (HS6.cell 0)) ?_)
    refine seqL1 (by kernel_rfl) ?_
    refine seqK rfl (does_run (run_load rfl Try.underlying42 rfl (by kernel_rfl : _ = Value.pointer (some ⟨b4, 1, none⟩)) (HS6.cell 1)) ?_)
    refine seqS3 (a' := ⟨#[.agg #[.int .i64 b1.Lo, .int .i64 b1.Hi, .bool b1.Unknown], .pointer (some ⟨b4, 0, none⟩), .int .i64 0, .bool false, .pointer (some ⟨b4, 2, none⟩), .bool false, .bool false, undef, undef, undef, undef, undef, undef, undef, undef, .bool false, undef, .pointer (some ⟨b4, 0, none⟩), .int .i64 b1.Lo, .pointer (some ⟨b4, 1, none⟩), .int .i64 b1.Hi, .int .i64 (mn b1.Lo b1.Hi), .bool (decide ((mn b1.Lo b1.Hi) < (-1152921504606846976))), .bool (decide ((mn b1.Lo b1.Hi) < (-1152921504606846976))), undef, undef, undef, undef, undef, undef, undef, undef, undef, undef, undef, undef, undef], []⟩) (by kernel_rfl) ?_
    have hq_ := ite_some h; clear h; rcases hq_ with ⟨c44, h⟩ | ⟨c44, h⟩
    · have c44 : (mn b1.Lo b1.Hi) < (-1152921504606846976) := c44
      refine seqRwI 22 (x := (decide ((mn b1.Lo b1.Hi) < (-1152921504606846976)))) (v := true) (by kernel_rfl) (decide_eq_true c44) ?_
      refine seqRwI 23 (x := (decide ((mn b1.Lo b1.Hi) < (-1152921504606846976)))) (v := true) (by kernel_rfl) (decide_eq_true c44) ?_
      refine seqS8 (a' := ⟨#[.agg #[.int .i64 b1.Lo, .int .i64 b1.Hi, .bool b1.Unknown], .pointer (some ⟨b4, 0, none⟩), .int .i64 0, .bool false, .pointer (some ⟨b4, 2, none⟩), .bool false, .bool false, undef, undef, undef, undef, undef, undef, undef, undef, .bool false, .bool true, .pointer (some ⟨b4, 0, none⟩), .int .i64 b1.Lo, .pointer (some ⟨b4, 1, none⟩), .int .i64 b1.Hi, .int .i64 (mn b1.Lo b1.Hi), .bool true, .bool true, undef, undef, undef, undef, undef, undef, .bool true, undef, undef, undef, undef, undef, undef], []⟩) (by kernel_rfl) ?_
      refine wpList_nil ?_
      refine hK43 _ _ ?_
      refine condT (by kernel_rfl) ?_
      refine wp_seq_k (fun K45 hK46 => ?_)
      refine wp_region_lit ?_
      refine seqS1 (a' := ⟨#[.agg #[.int .i64 b1.Lo, .int .i64 b1.Hi, .bool b1.Unknown], .pointer (some ⟨b4, 0, none⟩), .int .i64 4, .bool false, .pointer (some ⟨b4, 2, none⟩), .bool false, .bool false, undef, undef, undef, undef, undef, undef, undef, undef, .bool false, .bool true, .pointer (some ⟨b4, 0, none⟩), .int .i64 b1.Lo, .pointer (some ⟨b4, 1, none⟩), .int .i64 b1.Hi, .int .i64 (mn b1.Lo b1.Hi), .bool true, .bool true, undef, undef, undef, undef, undef, undef, .bool true, undef, undef, undef, undef, undef, undef], []⟩) (by kernel_rfl) ?_
      refine wpList_nil ?_
      refine hK46 _ _ ?_
      refine wp_ret ?_
      refine hr13 _ _ ?_
      refine hret _ _ ?_
      refine ends_still (v := Value.int .i64 4) (by kernel_rfl) (by kernel_rfl) ?_
      have HS66 := HS6.drop
      injection h with h
      subst h
      exact ⟨f, rfl, FM.le.refl _, HS66⟩
    · have c44 : ¬ ((mn b1.Lo b1.Hi) < (-1152921504606846976)) := c44
      refine seqRwI 22 (x := (decide ((mn b1.Lo b1.Hi) < (-1152921504606846976)))) (v := false) (by kernel_rfl) (decide_eq_false c44) ?_
      refine seqRwI 23 (x := (decide ((mn b1.Lo b1.Hi) < (-1152921504606846976)))) (v := false) (by kernel_rfl) (decide_eq_false c44) ?_
      refine seqL1 (by kernel_rfl) ?_
      refine seqG (by kernel_rfl) (does_run (run_load rfl Try.underlying42 rfl (by kernel_rfl : _ = Value.pointer (some ⟨b4, 0, none⟩)) (HS6.cell 0)) ?_)
      refine seqL1 (by kernel_rfl) ?_
      refine seqG (by kernel_rfl) (does_run (run_load rfl Try.underlying42 rfl (by kernel_rfl : _ = Value.pointer (some ⟨b4, 1, none⟩)) (HS6.cell 1)) ?_)
      refine seqS4 (a' := ⟨#[.agg #[.int .i64 b1.Lo, .int .i64 b1.Hi, .bool b1.Unknown], .pointer (some ⟨b4, 0, none⟩), .int .i64 0, .bool false, .pointer (some ⟨b4, 2, none⟩), .bool false, .bool false, undef, undef, undef, undef, undef, undef, undef, undef, .bool false, .bool (decide ((mx b1.Lo b1.Hi) > 1152921504606846976)), .pointer (some ⟨b4, 0, none⟩), .int .i64 b1.Lo, .pointer (some ⟨b4, 1, none⟩), .int .i64 b1.Hi, .int .i64 (mn b1.Lo b1.Hi), .bool false, .bool false, .pointer (some ⟨b4, 0, none⟩), .int .i64 b1.Lo, .pointer (some ⟨b4, 1, none⟩), .int .i64 b1.Hi, .int .i64 (mx b1.Lo b1.Hi), .bool (decide ((mx b1.Lo b1.Hi) > 1152921504606846976)), .bool (decide ((mx b1.Lo b1.Hi) > 1152921504606846976)), undef, undef, undef, undef, undef, undef], []⟩) (by kernel_rfl) ?_
      refine wpList_nil ?_
      refine hK43 _ _ ?_
      have hq_ := ite_some h; clear h; rcases hq_ with ⟨c48, h⟩ | ⟨c48, h⟩
      · have c48 : (mx b1.Lo b1.Hi) > 1152921504606846976 := c48
        refine wpRwI 16 (x := (decide ((mx b1.Lo b1.Hi) > 1152921504606846976))) (v := true) (by kernel_rfl) (decide_eq_true c48) ?_
        refine wpRwI 29 (x := (decide ((mx b1.Lo b1.Hi) > 1152921504606846976))) (v := true) (by kernel_rfl) (decide_eq_true c48) ?_
        refine wpRwI 30 (x := (decide ((mx b1.Lo b1.Hi) > 1152921504606846976))) (v := true) (by kernel_rfl) (decide_eq_true c48) ?_
        refine condT (by kernel_rfl) ?_
        refine wp_seq_k (fun K49 hK50 => ?_)
        refine wp_region_lit ?_
        refine seqS1 (a' := ⟨#[.agg #[.int .i64 b1.Lo, .int .i64 b1.Hi, .bool b1.Unknown], .pointer (some ⟨b4, 0, none⟩), .int .i64 4, .bool false, .pointer (some ⟨b4, 2, none⟩), .bool false, .bool false, undef, undef, undef, undef, undef, undef, undef, undef, .bool false, .bool true, .pointer (some ⟨b4, 0, none⟩), .int .i64 b1.Lo, .pointer (some ⟨b4, 1, none⟩), .int .i64 b1.Hi, .int .i64 (mn b1.Lo b1.Hi), .bool false, .bool false, .pointer (some ⟨b4, 0, none⟩), .int .i64 b1.Lo, .pointer (some ⟨b4, 1, none⟩), .int .i64 b1.Hi, .int .i64 (mx b1.Lo b1.Hi), .bool true, .bool true, undef, undef, undef, undef, undef, undef], []⟩) (by kernel_rfl) ?_
        refine wpList_nil ?_
        refine hK50 _ _ ?_
        refine wp_ret ?_
        refine hr13 _ _ ?_
        refine hret _ _ ?_
        refine ends_still (v := Value.int .i64 4) (by kernel_rfl) (by kernel_rfl) ?_
        have HS67 := HS6.drop
        injection h with h
        subst h
        exact ⟨f, rfl, FM.le.refl _, HS67⟩
      · have c48 : ¬ ((mx b1.Lo b1.Hi) > 1152921504606846976) := c48
        refine wpRwI 16 (x := (decide ((mx b1.Lo b1.Hi) > 1152921504606846976))) (v := false) (by kernel_rfl) (decide_eq_false c48) ?_
        refine wpRwI 29 (x := (decide ((mx b1.Lo b1.Hi) > 1152921504606846976))) (v := false) (by kernel_rfl) (decide_eq_false c48) ?_
        refine wpRwI 30 (x := (decide ((mx b1.Lo b1.Hi) > 1152921504606846976))) (v := false) (by kernel_rfl) (decide_eq_false c48) ?_
        refine condF (by kernel_rfl) ?_
        refine wp_seq_k (fun K51 hK52 => ?_)
        refine wp_region_lit ?_
        refine seqL1 (by kernel_rfl) ?_
        refine seqK rfl (does_run (run_load rfl Try.underlying42 rfl (by kernel_rfl : _ = Value.pointer (some ⟨b4, 0, none⟩)) (HS6.cell 0)) ?_)
        refine seqL1 (by kernel_rfl) ?_
        refine seqK rfl (does_run (run_load rfl Try.underlying42 rfl (by kernel_rfl : _ = Value.pointer (some ⟨b4, 1, none⟩)) (HS6.cell 1)) ?_)
        refine seqS2 (a' := ⟨#[.agg #[.int .i64 b1.Lo, .int .i64 b1.Hi, .bool b1.Unknown], .pointer (some ⟨b4, 0, none⟩), .int .i64 0, .bool false, .pointer (some ⟨b4, 2, none⟩), .bool false, .bool false, undef, undef, undef, undef, undef, undef, undef, undef, .bool false, .bool false, .pointer (some ⟨b4, 0, none⟩), .int .i64 b1.Lo, .pointer (some ⟨b4, 1, none⟩), .int .i64 b1.Hi, .int .i64 (mn b1.Lo b1.Hi), .bool false, .bool false, .pointer (some ⟨b4, 0, none⟩), .int .i64 b1.Lo, .pointer (some ⟨b4, 1, none⟩), .int .i64 b1.Hi, .int .i64 (mx b1.Lo b1.Hi), .bool false, .bool false, .bool (decide (b1.Lo > b1.Hi)), .pointer (some ⟨b4, 0, none⟩), .int .i64 b1.Lo, .pointer (some ⟨b4, 1, none⟩), .int .i64 b1.Hi, .bool (decide (b1.Lo > b1.Hi))], []⟩) (by kernel_rfl) ?_
        refine wpList_nil ?_
        refine hK52 _ _ ?_
        have hq_ := ite_some h; clear h; rcases hq_ with ⟨c54, h⟩ | ⟨c54, h⟩
        · have c54 : b1.Lo > b1.Hi := c54
          refine wpRwI 31 (x := (decide (b1.Lo > b1.Hi))) (v := true) (by kernel_rfl) (decide_eq_true c54) ?_
          refine wpRwI 36 (x := (decide (b1.Lo > b1.Hi))) (v := true) (by kernel_rfl) (decide_eq_true c54) ?_
          refine condT (by kernel_rfl) ?_
          refine wp_seq_k (fun K55 hK56 => ?_)
          refine wp_region_lit ?_
          refine seqS1 (a' := ⟨#[.agg #[.int .i64 b1.Lo, .int .i64 b1.Hi, .bool b1.Unknown], .pointer (some ⟨b4, 0, none⟩), .int .i64 11, .bool false, .pointer (some ⟨b4, 2, none⟩), .bool false, .bool false, undef, undef, undef, undef, undef, undef, undef, undef, .bool false, .bool false, .pointer (some ⟨b4, 0, none⟩), .int .i64 b1.Lo, .pointer (some ⟨b4, 1, none⟩), .int .i64 b1.Hi, .int .i64 (mn b1.Lo b1.Hi), .bool false, .bool false, .pointer (some ⟨b4, 0, none⟩), .int .i64 b1.Lo, .pointer (some ⟨b4, 1, none⟩), .int .i64 b1.Hi, .int .i64 (mx b1.Lo b1.Hi), .bool false, .bool false, .bool true, .pointer (some ⟨b4, 0, none⟩), .int .i64 b1.Lo, .pointer (some ⟨b4, 1, none⟩), .int .i64 b1.Hi, .bool true], []⟩) (by kernel_rfl) ?_
          refine wpList_nil ?_
          refine hK56 _ _ ?_
          refine wp_ret ?_
          refine hr13 _ _ ?_
          refine hret _ _ ?_
          refine ends_still (v := Value.int .i64 11) (by kernel_rfl) (by kernel_rfl) ?_
          have HS68 := HS6.drop
          injection h with h
          subst h
          exact ⟨f, rfl, FM.le.refl _, HS68⟩
        · have c54 : ¬ (b1.Lo > b1.Hi) := c54
          refine wpRwI 31 (x := (decide (b1.Lo > b1.Hi))) (v := false) (by kernel_rfl) (decide_eq_false c54) ?_
          refine wpRwI 36 (x := (decide (b1.Lo > b1.Hi))) (v := false) (by kernel_rfl) (decide_eq_false c54) ?_
          refine condF (by kernel_rfl) ?_
          refine wp_skip ?_
          refine hn12 _ _ ?_
          refine hK9 _ _ ?_
          refine wp_seq_k (fun K59 hK60 => ?_)
          refine wp_region_lit ?_
          refine seqS1 (a' := ⟨#[.agg #[.int .i64 b1.Lo, .int .i64 b1.Hi, .bool b1.Unknown], .pointer (some ⟨b4, 0, none⟩), .int .i64 0, .bool false, .pointer (some ⟨b4, 2, none⟩), .bool false, .bool false, undef, undef, undef, undef, undef, undef, undef, undef, .bool false, .bool false, .pointer (some ⟨b4, 0, none⟩), .int .i64 b1.Lo, .pointer (some ⟨b4, 1, none⟩), .int .i64 b1.Hi, .int .i64 (mn b1.Lo b1.Hi), .bool false, .bool false, .pointer (some ⟨b4, 0, none⟩), .int .i64 b1.Lo, .pointer (some ⟨b4, 1, none⟩), .int .i64 b1.Hi, .int .i64 (mx b1.Lo b1.Hi), .bool false, .bool false, .bool false, .pointer (some ⟨b4, 0, none⟩), .int .i64 b1.Lo, .pointer (some ⟨b4, 1, none⟩), .int .i64 b1.Hi, .bool false], []⟩) (by kernel_rfl) ?_
          refine wpList_nil ?_
          refine hK60 _ _ ?_
          refine wp_ret ?_
          refine hret _ _ ?_
          refine ends_still (v := Value.int .i64 0) (by kernel_rfl) (by kernel_rfl) ?_
          have HS70 := HS6.drop
          injection h with h
          subst h
          exact ⟨f, rfl, FM.le.refl _, HS70⟩

set_option maxRecDepth 100000 in
set_option maxHeartbeats 4000000 in
theorem bound_None_Quanta.calls (k : Nat)   {t w : World} {f : FM} {H : List Seg} (HS : St t w f (H)) (r1 : S_Bound) (h : bound_None_Quanta k = some r1) :
    Calls Try.prog 32 #[] w (fun e w' => ∃ (g : FM), e = .returned (Value.agg #[.int .i64 r1.Lo, .int .i64 r1.Hi, .bool r1.Unknown]) ∧ FM.le f g ∧ St t w' g (H)) := by
  unfold bound_None_Quanta at h
  refine enter Try.func32 rfl (tm := #[undef, undef]) (by kernel_rfl) ?_
  intro B hret hnor hnp
  refine wp_seq_k (fun K1 hK2 => ?_)
  refine wp_region_lit ?_
  refine seqK rfl (does_alloc (z := Value.agg #[.int .i64 0, .int .i64 0, .bool false]) (cs := #[.int .i64 0, .int .i64 0, .bool false]) rfl (by kernel_rfl) rfl HS ?_)
  intro b3 W4 HS5
  refine wpList_nil ?_
  refine hK2 _ _ ?_
  refine wp_seq_k (fun K7 hK8 => ?_)
  refine wp_region_lit ?_
  refine seqL1 (by kernel_rfl) ?_
  refine seqK rfl (does_store (n := 3) (vs := [.int .i64 0, .int .i64 0, .bool true]) (cs' := #[.int .i64 0, .int .i64 0, .bool true]) rfl (by kernel_rfl) (by kernel_rfl : _ = Value.pointer (some ⟨b3, 0, none⟩)) (by kernel_rfl : _ = Value.agg #[.int .i64 0, .int .i64 0, .bool true]) rfl rfl (by intro u_ hu_; simp only [List.mem_cons, List.not_mem_nil, or_false] at hu_; rcases hu_ with rfl | rfl | rfl <;> rfl) HS5 (Nat.le_of_ble_eq_true rfl) (by kernel_rfl) ?_)
  intro W9 HS10
  refine wpList_nil ?_
  refine hK8 _ _ ?_
  refine wp_ret ?_
  refine hret _ _ ?_
  refine ends (v := Value.agg #[.int .i64 0, .int .i64 0, .bool true]) (results1 (q1 := .cell 0 44) (by kernel_rfl) (resN (n := 3) (cs := [.int .i64 0, .int .i64 0, .bool true]) (by kernel_rfl : _ = Value.pointer (some ⟨b3, 0, none⟩)) Try.underlying44 rfl (by kernel_rfl) rfl (HS10.cells 0 3 _ rfl))) (by kernel_rfl) ?_
  have HS11 := HS10.drop
  injection h with h
  subst h
  exact ⟨f, rfl, FM.le.refl _, HS11⟩

set_option maxRecDepth 100000 in
set_option maxHeartbeats 4000000 in
theorem bound_Norm_Quanta.calls (k : Nat)  (b1 : S_Bound) {t w : World} {f : FM} {H : List Seg} (HS : St t w f (H)) (r1 : S_Bound) (h : bound_Norm_Quanta k b1 = some r1) :
    Calls Try.prog 45 #[.agg #[.int .i64 b1.Lo, .int .i64 b1.Hi, .bool b1.Unknown]] w (fun e w' => ∃ (g : FM), e = .returned (Value.agg #[.int .i64 r1.Lo, .int .i64 r1.Hi, .bool r1.Unknown]) ∧ FM.le f g ∧ St t w' g (H)) := by
  unfold bound_Norm_Quanta at h
  refine enter Try.func45 rfl (tm := #[.agg #[.int .i64 b1.Lo, .int .i64 b1.Hi, .bool b1.Unknown], undef, undef, undef, undef, undef, undef, undef]) (by kernel_rfl) ?_
  intro B hret hnor hnp
  refine wp_seq_k (fun K2 hK3 => ?_)
  refine wp_region_lit ?_
  refine seqK rfl (does_box (cs := #[.int .i64 b1.Lo, .int .i64 b1.Hi, .bool b1.Unknown]) rfl (by kernel_rfl : _ = Value.agg #[.int .i64 b1.Lo, .int .i64 b1.Hi, .bool b1.Unknown]) rfl HS ?_)
  intro b4 W5 HS6
  refine seqK rfl (does_alloc (z := Value.agg #[.int .i64 0, .int .i64 0, .bool false]) (cs := #[.int .i64 0, .int .i64 0, .bool false]) rfl (by kernel_rfl) rfl HS6 ?_)
  intro b8 W9 HS10
  refine wpList_nil ?_
  refine hK3 _ _ ?_
  refine wp_seq_k (fun K12 hK13 => ?_)
  refine wp_seq_k (fun K14 hK15 => ?_)
  refine wp_region_lit ?_
  refine seqK rfl (does_run (run_loadN (n := 3) rfl Try.underlying44 rfl (by kernel_rfl) (by kernel_rfl : _ = Value.pointer (some ⟨b4, 0, none⟩)) (cs := [.int .i64 b1.Lo, .int .i64 b1.Hi, .bool b1.Unknown]) rfl (HS10.u1.cells 0 3 _ rfl)) ?_)
  have hq_ := bind_some h; clear h; obtain ⟨vt16, hc17, h⟩ := hq_
  refine seqK rfl (does_call (f := 71) (args := #[.agg #[.int .i64 b1.Lo, .int .i64 b1.Hi, .bool b1.Unknown]]) (by kernel_rfl) (bound_Check_Quanta.calls k b1 HS10 vt16 hc17) ?_)
  rintro _ W20 ⟨f18, rfl, L19, HS21⟩
  refine ⟨_, rfl, ?_⟩
  refine seqS1 (a' := ⟨#[.agg #[.int .i64 b1.Lo, .int .i64 b1.Hi, .bool b1.Unknown], .pointer (some ⟨b4, 0, none⟩), .pointer (some ⟨b8, 0, none⟩), .agg #[.int .i64 b1.Lo, .int .i64 b1.Hi, .bool b1.Unknown], .int .i64 vt16, .bool (vt16 != 0), undef, undef], []⟩) (by kernel_rfl) ?_
  refine wpList_nil ?_
  refine hK15 _ _ ?_
  have hq_ := ite_some h; clear h; rcases hq_ with ⟨c23, h⟩ | ⟨c23, h⟩
  · have c23 : vt16 ≠ 0 := c23
    refine wpRwI 5 (x := (vt16 != 0)) (v := true) (by kernel_rfl) (bne_iff_ne.mpr c23) ?_
    refine condT (by kernel_rfl) ?_
    refine wp_seq_k (fun K24 hK25 => ?_)
    refine wp_region_lit ?_
    have hq_ := bind_some h; clear h; obtain ⟨vt26, hc27, h⟩ := hq_
    refine seqK rfl (does_call (f := 32) (args := #[]) (by kernel_rfl) (bound_None_Quanta.calls k  HS21 vt26 hc27) ?_)
    rintro _ W30 ⟨f28, rfl, L29, HS31⟩
    refine ⟨_, rfl, ?_⟩
    refine seqK rfl (does_store (n := 3) (vs := [.int .i64 vt26.Lo, .int .i64 vt26.Hi, .bool vt26.Unknown]) (cs' := #[.int .i64 vt26.Lo, .int .i64 vt26.Hi, .bool vt26.Unknown]) rfl (by kernel_rfl) (by kernel_rfl : _ = Value.pointer (some ⟨b8, 0, none⟩)) (by kernel_rfl : _ = Value.agg #[.int .i64 vt26.Lo, .int .i64 vt26.Hi, .bool vt26.Unknown]) rfl rfl (by intro u_ hu_; simp only [List.mem_cons, List.not_mem_nil, or_false] at hu_; rcases hu_ with rfl | rfl | rfl <;> rfl) HS31 (Nat.le_of_ble_eq_true rfl) (by kernel_rfl) ?_)
    intro W32 HS33
    refine wpList_nil ?_
    refine hK25 _ _ ?_
    refine wp_ret ?_
    refine hret _ _ ?_
    refine ends (v := Value.agg #[.int .i64 vt26.Lo, .int .i64 vt26.Hi, .bool vt26.Unknown]) (results1 (q1 := .cell 2 44) (by kernel_rfl) (resN (n := 3) (cs := [.int .i64 vt26.Lo, .int .i64 vt26.Hi, .bool vt26.Unknown]) (by kernel_rfl : _ = Value.pointer (some ⟨b8, 0, none⟩)) Try.underlying44 rfl (by kernel_rfl) rfl (HS33.cells 0 3 _ rfl))) (by kernel_rfl) ?_
    have HS38 := HS33.drop
    have HS39 := HS38.drop
    injection h with h
    subst h
    exact ⟨f28, rfl, (L19.trans L29), HS39⟩
  · have c23 : ¬ (vt16 ≠ 0) := c23
    refine wpRwI 5 (x := (vt16 != 0)) (v := false) (by kernel_rfl) (bne_eq_false_iff_eq.mpr (Decidable.of_not_not c23)) ?_
    refine condF (by kernel_rfl) ?_
    refine wp_skip ?_
    refine hK13 _ _ ?_
    refine wp_seq_k (fun K34 hK35 => ?_)
    refine wp_region_lit ?_
    refine seqK rfl (does_run (run_loadN (n := 3) rfl Try.underlying44 rfl (by kernel_rfl) (by kernel_rfl : _ = Value.pointer (some ⟨b4, 0, none⟩)) (cs := [.int .i64 b1.Lo, .int .i64 b1.Hi, .bool b1.Unknown]) rfl (HS21.u1.cells 0 3 _ rfl)) ?_)
    refine seqK rfl (does_store (n := 3) (vs := [.int .i64 b1.Lo, .int .i64 b1.Hi, .bool b1.Unknown]) (cs' := #[.int .i64 b1.Lo, .int .i64 b1.Hi, .bool b1.Unknown]) rfl (by kernel_rfl) (by kernel_rfl : _ = Value.pointer (some ⟨b8, 0, none⟩)) (by kernel_rfl : _ = Value.agg #[.int .i64 b1.Lo, .int .i64 b1.Hi, .bool b1.Unknown]) rfl rfl (by intro u_ hu_; simp only [List.mem_cons, List.not_mem_nil, or_false] at hu_; rcases hu_ with rfl | rfl | rfl <;> rfl) HS21 (Nat.le_of_ble_eq_true rfl) (by kernel_rfl) ?_)
    intro W36 HS37
    refine wpList_nil ?_
    refine hK35 _ _ ?_
    refine wp_ret ?_
    refine hret _ _ ?_
    refine ends (v := Value.agg #[.int .i64 b1.Lo, .int .i64 b1.Hi, .bool b1.Unknown]) (results1 (q1 := .cell 2 44) (by kernel_rfl) (resN (n := 3) (cs := [.int .i64 b1.Lo, .int .i64 b1.Hi, .bool b1.Unknown]) (by kernel_rfl : _ = Value.pointer (some ⟨b8, 0, none⟩)) Try.underlying44 rfl (by kernel_rfl) rfl (HS37.cells 0 3 _ rfl))) (by kernel_rfl) ?_
    have HS40 := HS37.drop
    have HS41 := HS40.drop
    injection h with h
    subst h
    exact ⟨f18, rfl, L19, HS41⟩

set_option maxRecDepth 100000 in
set_option maxHeartbeats 4000000 in
theorem bound_Of_Quanta.calls (k : Nat)  (lo1 : Int) (hi2 : Int) {t w : World} {f : FM} {H : List Seg} (HS : St t w f (H)) (r1 : S_Bound) (h : bound_Of_Quanta k lo1 hi2 = some r1) :
    Calls Try.prog 22 #[.int .i64 lo1, .int .i64 hi2] w (fun e w' => ∃ (g : FM), e = .returned (Value.agg #[.int .i64 r1.Lo, .int .i64 r1.Hi, .bool r1.Unknown]) ∧ FM.le f g ∧ St t w' g (H)) := by
  unfold bound_Of_Quanta at h
  refine enter Try.func22 rfl (tm := #[.int .i64 lo1, .int .i64 hi2, undef, undef, undef, undef, undef, undef, undef]) (by kernel_rfl) ?_
  intro B hret hnor hnp
  refine wp_seq_k (fun K3 hK4 => ?_)
  refine wp_region_lit ?_
  refine seqK rfl (does_alloc (z := Value.agg #[.int .i64 0, .int .i64 0, .bool false]) (cs := #[.int .i64 0, .int .i64 0, .bool false]) rfl (by kernel_rfl) rfl HS ?_)
  intro b5 W6 HS7
  refine wpList_nil ?_
  refine hK4 _ _ ?_
  refine wp_seq_k (fun K9 hK10 => ?_)
  refine wp_region_lit ?_
  have hq_ := bind_some h; clear h; obtain ⟨vt11, hc12, h⟩ := hq_
  refine seqL3 (by kernel_rfl) ?_
  refine seqK rfl (does_call (f := 45) (args := #[.agg #[.int .i64 lo1, .int .i64 hi2, .bool false]]) (by kernel_rfl) (bound_Norm_Quanta.calls k (⟨lo1, hi2, false⟩ : S_Bound) HS7 vt11 hc12) ?_)
  rintro _ W15 ⟨f13, rfl, L14, HS16⟩
  refine ⟨_, rfl, ?_⟩
  refine seqK rfl (does_store (n := 3) (vs := [.int .i64 vt11.Lo, .int .i64 vt11.Hi, .bool vt11.Unknown]) (cs' := #[.int .i64 vt11.Lo, .int .i64 vt11.Hi, .bool vt11.Unknown]) rfl (by kernel_rfl) (by kernel_rfl : _ = Value.pointer (some ⟨b5, 0, none⟩)) (by kernel_rfl : _ = Value.agg #[.int .i64 vt11.Lo, .int .i64 vt11.Hi, .bool vt11.Unknown]) rfl rfl (by intro u_ hu_; simp only [List.mem_cons, List.not_mem_nil, or_false] at hu_; rcases hu_ with rfl | rfl | rfl <;> rfl) HS16 (Nat.le_of_ble_eq_true rfl) (by kernel_rfl) ?_)
  intro W17 HS18
  refine wpList_nil ?_
  refine hK10 _ _ ?_
  refine wp_ret ?_
  refine hret _ _ ?_
  refine ends (v := Value.agg #[.int .i64 vt11.Lo, .int .i64 vt11.Hi, .bool vt11.Unknown]) (results1 (q1 := .cell 4 44) (by kernel_rfl) (resN (n := 3) (cs := [.int .i64 vt11.Lo, .int .i64 vt11.Hi, .bool vt11.Unknown]) (by kernel_rfl : _ = Value.pointer (some ⟨b5, 0, none⟩)) Try.underlying44 rfl (by kernel_rfl) rfl (HS18.cells 0 3 _ rfl))) (by kernel_rfl) ?_
  have HS19 := HS18.drop
  injection h with h
  subst h
  exact ⟨f13, rfl, L14, HS19⟩

set_option maxRecDepth 100000 in
set_option maxHeartbeats 4000000 in
theorem bound_Exact_Quanta.calls (k : Nat)  (v1 : Int) {t w : World} {f : FM} {H : List Seg} (HS : St t w f (H)) (r1 : S_Bound) (h : bound_Exact_Quanta k v1 = some r1) :
    Calls Try.prog 30 #[.int .i64 v1] w (fun e w' => ∃ (g : FM), e = .returned (Value.agg #[.int .i64 r1.Lo, .int .i64 r1.Hi, .bool r1.Unknown]) ∧ FM.le f g ∧ St t w' g (H)) := by
  unfold bound_Exact_Quanta at h
  refine enter Try.func30 rfl (tm := #[.int .i64 v1, undef, undef, undef, undef, undef]) (by kernel_rfl) ?_
  intro B hret hnor hnp
  refine wp_seq_k (fun K2 hK3 => ?_)
  refine wp_region_lit ?_
  refine seqK rfl (does_alloc (z := Value.agg #[.int .i64 0, .int .i64 0, .bool false]) (cs := #[.int .i64 0, .int .i64 0, .bool false]) rfl (by kernel_rfl) rfl HS ?_)
  intro b4 W5 HS6
  refine wpList_nil ?_
  refine hK3 _ _ ?_
  refine wp_seq_k (fun K8 hK9 => ?_)
  refine wp_region_lit ?_
  have hq_ := bind_some h; clear h; obtain ⟨vt10, hc11, h⟩ := hq_
  refine seqL2 (by kernel_rfl) ?_
  refine seqK rfl (does_call (f := 22) (args := #[.int .i64 v1, .int .i64 v1]) (by kernel_rfl) (bound_Of_Quanta.calls k v1 v1 HS6 vt10 hc11) ?_)
  rintro _ W14 ⟨f12, rfl, L13, HS15⟩
  refine ⟨_, rfl, ?_⟩
  refine seqK rfl (does_store (n := 3) (vs := [.int .i64 vt10.Lo, .int .i64 vt10.Hi, .bool vt10.Unknown]) (cs' := #[.int .i64 vt10.Lo, .int .i64 vt10.Hi, .bool vt10.Unknown]) rfl (by kernel_rfl) (by kernel_rfl : _ = Value.pointer (some ⟨b4, 0, none⟩)) (by kernel_rfl : _ = Value.agg #[.int .i64 vt10.Lo, .int .i64 vt10.Hi, .bool vt10.Unknown]) rfl rfl (by intro u_ hu_; simp only [List.mem_cons, List.not_mem_nil, or_false] at hu_; rcases hu_ with rfl | rfl | rfl <;> rfl) HS15 (Nat.le_of_ble_eq_true rfl) (by kernel_rfl) ?_)
  intro W16 HS17
  refine wpList_nil ?_
  refine hK9 _ _ ?_
  refine wp_ret ?_
  refine hret _ _ ?_
  refine ends (v := Value.agg #[.int .i64 vt10.Lo, .int .i64 vt10.Hi, .bool vt10.Unknown]) (results1 (q1 := .cell 2 44) (by kernel_rfl) (resN (n := 3) (cs := [.int .i64 vt10.Lo, .int .i64 vt10.Hi, .bool vt10.Unknown]) (by kernel_rfl : _ = Value.pointer (some ⟨b4, 0, none⟩)) Try.underlying44 rfl (by kernel_rfl) rfl (HS17.cells 0 3 _ rfl))) (by kernel_rfl) ?_
  have HS18 := HS17.drop
  injection h with h
  subst h
  exact ⟨f12, rfl, L13, HS18⟩

set_option maxRecDepth 100000 in
set_option maxHeartbeats 4000000 in
theorem slices_Clone_Bound_Quanta.calls (k : Nat) (A2 : Option Addr) (c3 : Nat) (s1 : List S_Bound) {t w : World} {f : FM} {H : List Seg} (HS : St t w f (H)) (HR4 : SlR ty_Bound f A2 c3 s1) (r1 : List S_Bound) (h : slices_Clone_Bound_Quanta k s1 = some r1) :
    Calls Try.prog 37 #[.slice A2 s1.length c3] w (fun e w' => ∃ (g : FM) (A31 : Option Addr) (c32 : Nat) (s33 : Seg), e = .returned (Value.slice A31 r1.length c32) ∧ FM.le f g ∧ St t w' g (s33 :: H) ∧ Own ty_Bound 44 g A31 c32 s33 r1) := by
  unfold slices_Clone_Bound_Quanta at h
  refine enter Try.func37 rfl (tm := #[.slice A2 s1.length c3, undef, undef, undef, undef, undef, undef, undef]) (by kernel_rfl) ?_
  intro B hret hnor hnp
  refine wp_seq_k (fun K5 hK6 => ?_)
  refine wp_region_lit ?_
  refine seqS1 (a' := ⟨#[.slice A2 s1.length c3, undef, .slice none 0 0, undef, undef, undef, undef, undef], []⟩) (by kernel_rfl) ?_
  refine wpList_nil ?_
  refine hK6 _ _ ?_
  refine wp_seq_k (fun K7 hK8 => ?_)
  refine wp_seq_k (fun K9 hK10 => ?_)
  refine wp_region_lit ?_
  refine seqS1 (a' := ⟨#[.slice A2 s1.length c3, undef, .slice none 0 0, .slice A2 s1.length c3, undef, undef, undef, undef], []⟩) (by kernel_rfl) ?_
  obtain _ | ad11 := A2
  · obtain rfl := HR4.nil_eq
    have hq_ := guard_some h; clear h; obtain ⟨_, h⟩ := hq_
    refine seqS1 (a' := ⟨#[.slice none ([] : List S_Bound).length c3, undef, .slice none 0 0, .slice none ([] : List S_Bound).length c3, .bool true, undef, undef, undef], []⟩) (by kernel_rfl) ?_
    refine wpList_nil ?_
    refine hK10 _ _ ?_
    refine condT (by kernel_rfl) ?_
    refine wp_seq_k (fun K27 hK28 => ?_)
    refine wp_region_lit ?_
    refine seqS1 (a' := ⟨#[.slice none ([] : List S_Bound).length c3, undef, .slice none 0 0, .slice none ([] : List S_Bound).length c3, .bool true, undef, undef, undef], []⟩) (by kernel_rfl) ?_
    refine wpList_nil ?_
    refine hK28 _ _ ?_
    refine wp_ret ?_
    refine hret _ _ ?_
    have HS29 := HS.cons_nil
    refine ends_still (v := Value.slice none 0 0) (by kernel_rfl) (by kernel_rfl) ?_
    injection h with h
    subst h
    exact ⟨f, none, 0, [], rfl, FM.le.refl _, HS29, (Own.nil _)⟩
  · refine seqS1 (a' := ⟨#[.slice (some ad11) s1.length c3, undef, .slice none 0 0, .slice (some ad11) s1.length c3, .bool false, undef, undef, undef], []⟩) (by kernel_rfl) ?_
    refine wpList_nil ?_
    refine hK10 _ _ ?_
    refine condF (by kernel_rfl) ?_
    refine wp_skip ?_
    refine hK8 _ _ ?_
    refine wp_seq_k (fun K12 hK13 => ?_)
    refine wp_region_lit ?_
    refine seqK rfl (does_lit (e := ty_Bound) (E := 44) (vs := #[]) (cs := #[]) (xs := ([] : List S_Bound)) rfl Try.underlying32 (by kernel_rfl) (by kernel_rfl) rfl rfl HS ?_ (by decide))
    intro b14 W15 s16 HS17 _ HO18
    have hq_ := guard_some h; clear h; obtain ⟨c20, h⟩ := hq_
    have c20 : (([] : List S_Bound).length + s1.length) * 24 ≤ 140737488355328 := c20
    refine seqL1 (by kernel_rfl) ?_
    refine seqK rfl (does_append (e := ty_Bound) (E := 44) (xs := ([] : List S_Bound)) (ys := s1) rfl (by kernel_rfl : _ = Value.slice (some ⟨b14, 0, none⟩) ([] : List S_Bound).length 0) (by kernel_rfl : _ = Value.slice (some ad11) s1.length c3) Try.underlying32 inf44 HO18 HS17 (HR4.rc HS17) c20 (lim63 c20 (by decide)) ?_)
    intro A21 c22 s23 W24 HS25 HO26
    refine seqS1 (a' := ⟨#[.slice (some ad11) s1.length c3, undef, .slice A21 (([] : List S_Bound) ++ s1).length c22, .slice (some ad11) s1.length c3, .bool false, .slice (some ⟨b14, 0, none⟩) ([] : List S_Bound).length 0, .slice (some ad11) s1.length c3, .slice A21 (([] : List S_Bound) ++ s1).length c22], []⟩) (by kernel_rfl) ?_
    refine wpList_nil ?_
    refine hK13 _ _ ?_
    refine wp_ret ?_
    refine hret _ _ ?_
    refine ends_still (v := Value.slice A21 (([] : List S_Bound) ++ s1).length c22) (by kernel_rfl) (by kernel_rfl) ?_
    injection h with h
    subst h
    exact ⟨f, A21, c22, s23, rfl, FM.le.refl _, HS25, HO26⟩

end Go.Sp.V3
