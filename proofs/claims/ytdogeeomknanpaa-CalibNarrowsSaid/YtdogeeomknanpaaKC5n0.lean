import Derived.Test.YtdogeeomknanpaaProg
import Derived.Test.YtdogeeomknanpaaSpThree
import Derived.Test.YtdogeeomknanpaaFC5
namespace Go.Sp.C5
open Go Go.Sp Go.Proofs
set_option linter.unusedVariables false
attribute [local irreducible] wpList AnyL Code.wp Calls Does
def ty_Stream : Ty S_Stream where
  sz := 2
  rep := fun f cs x => ∃ (A0 : Option Addr) (c0 : Nat), cs = [.slice A0 x.L.length c0, .int .i64 x.vat] ∧ SlR (tInt .i64) f A0 c0 x.L
  pos := by decide
  len := by rintro f cs x ⟨A0, c0, rfl, h0⟩; rfl
  mono := by rintro f g cs x hl ⟨A0, c0, rfl, h0⟩; exact ⟨A0, c0, rfl, h0.mono hl⟩
  one := by
    rintro f cs x ⟨A0, c0, rfl, h0⟩ v hv
    simp only [List.mem_cons, List.not_mem_nil, or_false] at hv
    rcases hv with rfl | rfl <;> rfl
def ty_Bound : Ty S_Bound where
  sz := 3
  rep := fun f cs x => cs = [.int .i64 x.Lo, .int .i64 x.Hi, .bool x.Unknown]
  pos := by decide
  len := by rintro f cs x rfl; rfl
  mono := by rintro f g cs x hl rfl; exact rfl
  one := by
    rintro f cs x rfl v hv
    simp only [List.mem_cons, List.not_mem_nil, or_false] at hv
    rcases hv with rfl | rfl | rfl <;> rfl
def ty_Wide : Ty S_Wide where
  sz := 2
  rep := fun f cs x => cs = [.int .i64 x.Hi, .int .u64 x.Lo]
  pos := by decide
  len := by rintro f cs x rfl; rfl
  mono := by rintro f g cs x hl rfl; exact rfl
  one := by
    rintro f cs x rfl v hv
    simp only [List.mem_cons, List.not_mem_nil, or_false] at hv
    rcases hv with rfl | rfl <;> rfl
theorem inf52 : Inf Try.prog 52 1 8 (.int .i64 0) := .mk' (by kernel_rfl) rfl

set_option maxRecDepth 100000 in
set_option maxHeartbeats 4000000 in
theorem spymake_Below.calls (k : Nat)  (x1 : Int) (n2 : Int) {t w : World} {f : FM} {H : List Seg} (HS : St t w f (H)) (r1 : Int) (h : spymake_Below k x1 n2 = some r1) :
    Calls Try.prog 10 #[.int .i64 x1, .int .i64 n2] w (fun e w' => ∃ (g : FM), e = .returned (Value.int .i64 r1) ∧ FM.le f g ∧ St t w' g (H)) := by
  unfold spymake_Below at h
  refine enter Try.func10 rfl (tm := #[.int .i64 x1, .int .i64 n2, undef, undef, undef, undef, undef, undef, undef, undef, undef, undef, undef, undef, undef, undef]) (by kernel_rfl) ?_
  intro B hret hnor hnp
  refine wp_seq_k (fun K3 hK4 => ?_)
  refine wp_region_lit ?_
  refine seqS1 (a' := ⟨#[.int .i64 x1, .int .i64 n2, undef, undef, .int .i64 0, undef, undef, undef, undef, undef, undef, undef, undef, undef, undef, undef], []⟩) (by kernel_rfl) ?_
  refine wpList_nil ?_
  refine hK4 _ _ ?_
  refine wp_seq_k (fun K5 hK6 => ?_)
  refine wp_seq_k (fun K7 hK8 => ?_)
  refine wp_region_lit ?_
  refine seqS2 (a' := ⟨#[.int .i64 x1, .int .i64 n2, undef, undef, .int .i64 0, .int .i64 n2, .bool (decide (n2 < 1)), undef, undef, undef, undef, undef, undef, undef, undef, undef], []⟩) (by kernel_rfl) ?_
  refine wpList_nil ?_
  refine hK8 _ _ ?_
  have hq_ := ite_some h; clear h; rcases hq_ with ⟨c10, h⟩ | ⟨c10, h⟩
  · have c10 : n2 < 1 := c10
    refine wpRwI 6 (x := (decide (n2 < 1))) (v := true) (by kernel_rfl) (decide_eq_true c10) ?_
    refine condT (by kernel_rfl) ?_
    refine wp_seq_k (fun K11 hK12 => ?_)
    refine wp_region_lit ?_
    refine seqS1 (a' := ⟨#[.int .i64 x1, .int .i64 n2, undef, undef, .int .i64 0, .int .i64 n2, .bool true, undef, undef, undef, undef, undef, undef, undef, undef, undef], []⟩) (by kernel_rfl) ?_
    refine wpList_nil ?_
    refine hK12 _ _ ?_
    refine wp_ret ?_
    refine hret _ _ ?_
    refine ends_still (v := Value.int .i64 0) (by kernel_rfl) (by kernel_rfl) ?_
    injection h with h
    subst h
    exact ⟨f, rfl, FM.le.refl _, HS⟩
  · have c10 : ¬ (n2 < 1) := c10
    refine wpRwI 6 (x := (decide (n2 < 1))) (v := false) (by kernel_rfl) (decide_eq_false c10) ?_
    refine condF (by kernel_rfl) ?_
    refine wp_skip ?_
    refine hK6 _ _ ?_
    refine wp_seq_k (fun K13 hK14 => ?_)
    refine wp_region_lit ?_
    have hq_ := guard_some h; clear h; obtain ⟨c15, h⟩ := hq_
    have c15 : ¬ (n2 = 0) := c15
    refine seqL2 (by kernel_rfl) ?_
    refine seqK rfl (does_run (run_rem rfl (by kernel_rfl : _ = Value.int .i64 x1) (by kernel_rfl : _ = Value.int .i64 n2) c15 w) ?_)
    refine seqS1 (a' := ⟨#[.int .i64 (Int.tmod x1 n2), .int .i64 n2, undef, undef, .int .i64 0, .int .i64 n2, .bool false, .int .i64 x1, .int .i64 n2, .int .i64 (Int.tmod x1 n2), undef, undef, undef, undef, undef, undef], []⟩) (by kernel_rfl) ?_
    refine wpList_nil ?_
    refine hK14 _ _ ?_
    refine wp_seq_k (fun K16 hK17 => ?_)
    refine wp_seq_k (fun K18 hK19 => ?_)
    refine wp_region_lit ?_
    refine seqS2 (a' := ⟨#[.int .i64 (Int.tmod x1 n2), .int .i64 n2, undef, undef, .int .i64 0, .int .i64 n2, .bool false, .int .i64 x1, .int .i64 n2, .int .i64 (Int.tmod x1 n2), .int .i64 (Int.tmod x1 n2), .bool (decide ((Int.tmod x1 n2) < 0)), undef, undef, undef, undef], []⟩) (by kernel_rfl) ?_
    refine wpList_nil ?_
    refine hK19 _ _ ?_
    have hq_ := ite_some h; clear h; rcases hq_ with ⟨c21, h⟩ | ⟨c21, h⟩
    · have c21 : (Int.tmod x1 n2) < 0 := c21
      refine wpRwI 11 (x := (decide ((Int.tmod x1 n2) < 0))) (v := true) (by kernel_rfl) (decide_eq_true c21) ?_
      refine condT (by kernel_rfl) ?_
      refine wp_region_lit ?_
      refine seqS4 (a' := ⟨#[.int .i64 (w64 ((Int.tmod x1 n2) + n2)), .int .i64 n2, undef, undef, .int .i64 0, .int .i64 n2, .bool false, .int .i64 x1, .int .i64 n2, .int .i64 (Int.tmod x1 n2), .int .i64 (Int.tmod x1 n2), .bool true, .int .i64 (Int.tmod x1 n2), .int .i64 n2, .int .i64 (w64 ((Int.tmod x1 n2) + n2)), undef], []⟩) (by kernel_rfl) ?_
      refine wpList_nil ?_
      refine hK17 _ _ ?_
      refine wp_seq_k (fun K22 hK23 => ?_)
      refine wp_region_lit ?_
      refine seqS2 (a' := ⟨#[.int .i64 (w64 ((Int.tmod x1 n2) + n2)), .int .i64 n2, undef, undef, .int .i64 (w64 ((Int.tmod x1 n2) + n2)), .int .i64 n2, .bool false, .int .i64 x1, .int .i64 n2, .int .i64 (Int.tmod x1 n2), .int .i64 (Int.tmod x1 n2), .bool true, .int .i64 (Int.tmod x1 n2), .int .i64 n2, .int .i64 (w64 ((Int.tmod x1 n2) + n2)), .int .i64 (w64 ((Int.tmod x1 n2) + n2))], []⟩) (by kernel_rfl) ?_
      refine wpList_nil ?_
      refine hK23 _ _ ?_
      refine wp_ret ?_
      refine hret _ _ ?_
      refine ends_still (v := Value.int .i64 (w64 ((Int.tmod x1 n2) + n2))) (by kernel_rfl) (by kernel_rfl) ?_
      injection h with h
      subst h
      exact ⟨f, rfl, FM.le.refl _, HS⟩
    · have c21 : ¬ ((Int.tmod x1 n2) < 0) := c21
      refine wpRwI 11 (x := (decide ((Int.tmod x1 n2) < 0))) (v := false) (by kernel_rfl) (decide_eq_false c21) ?_
      refine condF (by kernel_rfl) ?_
      refine wp_skip ?_
      refine hK17 _ _ ?_
      refine wp_seq_k (fun K24 hK25 => ?_)
      refine wp_region_lit ?_
      refine seqS2 (a' := ⟨#[.int .i64 (Int.tmod x1 n2), .int .i64 n2, undef, undef, .int .i64 (Int.tmod x1 n2), .int .i64 n2, .bool false, .int .i64 x1, .int .i64 n2, .int .i64 (Int.tmod x1 n2), .int .i64 (Int.tmod x1 n2), .bool false, undef, undef, undef, .int .i64 (Int.tmod x1 n2)], []⟩) (by kernel_rfl) ?_
      refine wpList_nil ?_
      refine hK25 _ _ ?_
      refine wp_ret ?_
      refine hret _ _ ?_
      refine ends_still (v := Value.int .i64 (Int.tmod x1 n2)) (by kernel_rfl) (by kernel_rfl) ?_
      injection h with h
      subst h
      exact ⟨f, rfl, FM.le.refl _, HS⟩

set_option maxRecDepth 100000 in
set_option maxHeartbeats 4000000 in
theorem spymake_Stream_Next.calls (k : Nat) (b1 : Nat) (A4 : Option Addr) (c5 : Nat) (s3 : S_Stream) (n7 : Int) {t w : World} {f : FM} {H : List Seg} (HS : St t w f ([(b1, .cells #[.slice A4 s3.L.length c5, .int .i64 s3.vat] 25 (0, 0))] :: H)) (HR6 : SlR (tInt .i64) f A4 c5 s3.L) (r1 : Int) (r2 : Int) (h : spymake_Stream_Next k s3 n7 = some (r1, r2)) :
    Calls Try.prog 12 #[.pointer (some ⟨b1, 0, none⟩), .int .i64 n7] w (fun e w' => ∃ (g : FM), e = .returned (Value.int .i64 r1) ∧ FM.le f g ∧ St t w' g ([(b1, .cells #[.slice A4 s3.L.length c5, .int .i64 r2] 25 (0, 0))] :: H)) := by
  unfold spymake_Stream_Next at h
  refine enter Try.func12 rfl (tm := #[.pointer (some ⟨b1, 0, none⟩), .int .i64 n7, undef, undef, undef, undef, undef, undef, undef, undef, undef, undef, undef, undef, undef, undef, undef, undef, undef, undef, undef, undef, undef, undef, undef, undef, undef, undef, undef, undef, undef, undef, undef, undef, undef, undef, undef, undef, undef, undef, undef, undef, undef, undef, undef, undef, undef, undef, undef, undef, undef, undef, undef, undef, undef, undef, undef, undef, undef, undef, undef, undef, undef, undef]) (by kernel_rfl) ?_
  intro B hret hnor hnp
  refine wp_seq_k (fun K8 hK9 => ?_)
  refine wp_region_lit ?_
  refine seqS1 (a' := ⟨#[.pointer (some ⟨b1, 0, none⟩), .int .i64 n7, undef, undef, .int .i64 0, undef, undef, undef, undef, undef, undef, undef, undef, undef, undef, undef, undef, undef, undef, undef, undef, undef, undef, undef, undef, undef, undef, undef, undef, undef, undef, undef, undef, undef, undef, undef, undef, undef, undef, undef, undef, undef, undef, undef, undef, undef, undef, undef, undef, undef, undef, undef, undef, undef, undef, undef, undef, undef, undef, undef, undef, undef, undef, undef], []⟩) (by kernel_rfl) ?_
  refine wpList_nil ?_
  refine hK9 _ _ ?_
  refine wp_seq_k (fun K10 hK11 => ?_)
  refine wp_region_lit ?_
  refine seqL3 (by kernel_rfl) ?_
  refine seqK rfl (does_run (run_load rfl Try.underlying3 rfl (by kernel_rfl : _ = Value.pointer (some ⟨b1, 1, none⟩)) (HS.cell 1)) ?_)
  refine seqL3 (by kernel_rfl) ?_
  refine seqK rfl (does_store (n := 1) (vs := [.int .i64 (w64 (s3.vat + 1))]) (cs' := #[.slice A4 s3.L.length c5, .int .i64 (w64 (s3.vat + 1))]) rfl (by kernel_rfl) (by kernel_rfl : _ = Value.pointer (some ⟨b1, 1, none⟩)) (by kernel_rfl : _ = Value.int .i64 (w64 (s3.vat + 1))) rfl rfl (by intro u_ hu_; simp only [List.mem_cons, List.not_mem_nil, or_false] at hu_; subst hu_; rfl) HS (Nat.le_of_ble_eq_true rfl) (by kernel_rfl) ?_)
  intro W12 HS13
  refine wpList_nil ?_
  refine hK11 _ _ ?_
  refine wp_seq_k (fun K14 hK15 => ?_)
  refine wp_seq_k (fun K16 hK17 => ?_)
  refine wp_region_lit ?_
  refine seqL3 (by kernel_rfl) ?_
  refine seqK rfl (does_run (run_load rfl Try.underlying22 rfl (by kernel_rfl : _ = Value.pointer (some ⟨b1, 0, none⟩)) (HS13.cell 0)) ?_)
  refine seqS2 (a' := ⟨#[.pointer (some ⟨b1, 0, none⟩), .int .i64 n7, undef, undef, .int .i64 0, undef, undef, .pointer (some ⟨b1, 0, none⟩), .pointer (some ⟨b1, 0, none⟩), .pointer (some ⟨b1, 1, none⟩), .int .i64 s3.vat, .int .i64 (w64 (s3.vat + 1)), .pointer (some ⟨b1, 0, none⟩), .pointer (some ⟨b1, 1, none⟩), .pointer (some ⟨b1, 0, none⟩), .pointer (some ⟨b1, 0, none⟩), .pointer (some ⟨b1, 0, none⟩), .slice A4 s3.L.length c5, .int .i64 (s3.L.length : Int), .bool ((s3.L.length : Int) == 0), undef, undef, undef, undef, undef, undef, undef, undef, undef, undef, undef, undef, undef, undef, undef, undef, undef, undef, undef, undef, undef, undef, undef, undef, undef, undef, undef, undef, undef, undef, undef, undef, undef, undef, undef, undef, undef, undef, undef, undef, undef, undef, undef, undef], []⟩) (by kernel_rfl) ?_
  refine wpList_nil ?_
  refine hK17 _ _ ?_
  have hq_ := ite_some h; clear h; rcases hq_ with ⟨c19, h⟩ | ⟨c19, h⟩
  · have c19 : (s3.L.length : Int) = 0 := c19
    refine wpRwI 19 (x := ((s3.L.length : Int) == 0)) (v := true) (by kernel_rfl) (beq_iff_eq.mpr c19) ?_
    refine condT (by kernel_rfl) ?_
    refine wp_seq_k (fun K20 hK21 => ?_)
    refine wp_region_lit ?_
    refine seqL3 (by kernel_rfl) ?_
    refine seqK rfl (does_run (run_load rfl Try.underlying3 rfl (by kernel_rfl : _ = Value.pointer (some ⟨b1, 1, none⟩)) (HS13.cell 1)) ?_)
    have hq_ := bind_some h; clear h; obtain ⟨vt22, hc23, h⟩ := hq_
    refine seqL2 (by kernel_rfl) ?_
    refine seqK rfl (does_call (f := 10) (args := #[.int .i64 (w64 ((w64 (s3.vat + 1)) * 7919)), .int .i64 n7]) (by kernel_rfl) (spymake_Below.calls k (w64 ((w64 (s3.vat + 1)) * 7919)) n7 HS13 vt22 hc23) ?_)
    rintro _ W26 ⟨f24, rfl, L25, HS27⟩
    refine ⟨_, rfl, ?_⟩
    refine seqS1 (a' := ⟨#[.pointer (some ⟨b1, 0, none⟩), .int .i64 n7, undef, undef, .int .i64 vt22, undef, undef, .pointer (some ⟨b1, 0, none⟩), .pointer (some ⟨b1, 0, none⟩), .pointer (some ⟨b1, 1, none⟩), .int .i64 s3.vat, .int .i64 (w64 (s3.vat + 1)), .pointer (some ⟨b1, 0, none⟩), .pointer (some ⟨b1, 1, none⟩), .pointer (some ⟨b1, 0, none⟩), .pointer (some ⟨b1, 0, none⟩), .pointer (some ⟨b1, 0, none⟩), .slice A4 s3.L.length c5, .int .i64 (s3.L.length : Int), .bool true, .pointer (some ⟨b1, 0, none⟩), .pointer (some ⟨b1, 0, none⟩), .pointer (some ⟨b1, 1, none⟩), .int .i64 (w64 (s3.vat + 1)), .int .i64 (w64 ((w64 (s3.vat + 1)) * 7919)), .int .i64 n7, .int .i64 vt22, undef, undef, undef, undef, undef, undef, undef, undef, undef, undef, undef, undef, undef, undef, undef, undef, undef, undef, undef, undef, undef, undef, undef, undef, undef, undef, undef, undef, undef, undef, undef, undef, undef, undef, undef, undef, undef], []⟩) (by kernel_rfl) ?_
    refine wpList_nil ?_
    refine hK21 _ _ ?_
    refine wp_ret ?_
    refine hret _ _ ?_
    refine ends_still (v := Value.int .i64 vt22) (by kernel_rfl) (by kernel_rfl) ?_
    injection h with h
    injection h with h0_ h
    subst h0_ h
    exact ⟨f24, rfl, L25, HS27⟩
  · have c19 : ¬ ((s3.L.length : Int) = 0) := c19
    refine wpRwI 19 (x := ((s3.L.length : Int) == 0)) (v := false) (by kernel_rfl) (beq_eq_false_iff_ne.mpr c19) ?_
    refine condF (by kernel_rfl) ?_
    refine wp_skip ?_
    refine hK15 _ _ ?_
    refine wp_seq_k (fun K28 hK29 => ?_)
    refine heldG (S := Sg t f ([(b1, .cells #[.slice A4 s3.L.length c5, .int .i64 (w64 (s3.vat + 1))] 25 (0, 0))] :: H) []) (n := 12) (by kernel_rfl) rfl HS13 ?_
    intro W30 HS31
    refine takeG [0, 1, 2] (n := 12) (fuel := 9) (l' := #[true, true, true, false, false, false, false, false, false, false, false, false]) (a' := ⟨#[.pointer (some ⟨b1, 0, none⟩), .int .i64 n7, undef, undef, .int .i64 0, undef, undef, .pointer (some ⟨b1, 0, none⟩), .pointer (some ⟨b1, 0, none⟩), .pointer (some ⟨b1, 1, none⟩), .int .i64 s3.vat, .int .i64 (w64 (s3.vat + 1)), .pointer (some ⟨b1, 0, none⟩), .pointer (some ⟨b1, 1, none⟩), .pointer (some ⟨b1, 0, none⟩), .pointer (some ⟨b1, 0, none⟩), .pointer (some ⟨b1, 0, none⟩), .slice A4 s3.L.length c5, .int .i64 (s3.L.length : Int), .bool false, undef, undef, undef, undef, undef, undef, undef, .pointer (some ⟨b1, 0, none⟩), .pointer (some ⟨b1, 0, none⟩), .pointer (some ⟨b1, 1, none⟩), undef, undef, undef, undef, undef, undef, undef, undef, undef, undef, undef, undef, undef, undef, undef, undef, undef, undef, undef, undef, undef, undef, undef, undef, undef, undef, undef, undef, undef, undef, undef, undef, undef, undef], []⟩) rfl (by kernel_rfl) (by kernel_rfl) (by kernel_rfl) hnp (Sg.g0 (Sx.of [] (FM.le.refl _) HS31)) ?_
    refine takeGQ 3 [] rfl (by kernel_rfl) (by kernel_rfl) (by kernel_rfl) (by kernel_rfl) (by kernel_rfl) (by kernel_rfl) hnp (Sg.g0 (Sx.of [] (FM.le.refl _) HS31)) (fun w_ hw_ => by obtain ⟨g_, hl_, hS_⟩ := hw_.st; exact run_load rfl Try.underlying3 rfl (by kernel_rfl : _ = Value.pointer (some ⟨b1, 1, none⟩)) (hS_.cell 1)) ?_
    refine takeG [4, 5, 6, 7] (n := 8) (fuel := 4) (l' := #[true, true, true, true, true, true, true, true, false, false, false, false]) (a' := ⟨#[.pointer (some ⟨b1, 0, none⟩), .int .i64 n7, undef, undef, .int .i64 0, undef, undef, .pointer (some ⟨b1, 0, none⟩), .pointer (some ⟨b1, 0, none⟩), .pointer (some ⟨b1, 1, none⟩), .int .i64 s3.vat, .int .i64 (w64 (s3.vat + 1)), .pointer (some ⟨b1, 0, none⟩), .pointer (some ⟨b1, 1, none⟩), .pointer (some ⟨b1, 0, none⟩), .pointer (some ⟨b1, 0, none⟩), .pointer (some ⟨b1, 0, none⟩), .slice A4 s3.L.length c5, .int .i64 (s3.L.length : Int), .bool false, undef, undef, undef, undef, undef, undef, undef, .pointer (some ⟨b1, 0, none⟩), .pointer (some ⟨b1, 0, none⟩), .pointer (some ⟨b1, 1, none⟩), .int .i64 (w64 (s3.vat + 1)), .int .i64 (w64 ((w64 (s3.vat + 1)) - 1)), .pointer (some ⟨b1, 0, none⟩), .pointer (some ⟨b1, 0, none⟩), .pointer (some ⟨b1, 0, none⟩), undef, undef, undef, undef, undef, undef, undef, undef, undef, undef, undef, undef, undef, undef, undef, undef, undef, undef, undef, undef, undef, undef, undef, undef, undef, undef, undef, undef, undef], []⟩) rfl (by kernel_rfl) (by kernel_rfl) (by kernel_rfl) hnp (Sg.g0 (Sx.of [] (FM.le.refl _) HS31)) ?_
    refine takeGQ 8 [] rfl (by kernel_rfl) (by kernel_rfl) (by kernel_rfl) (by kernel_rfl) (by kernel_rfl) (by kernel_rfl) hnp (Sg.g0 (Sx.of [] (FM.le.refl _) HS31)) (fun w_ hw_ => by obtain ⟨g_, hl_, hS_⟩ := hw_.st; exact run_load rfl Try.underlying22 rfl (by kernel_rfl : _ = Value.pointer (some ⟨b1, 0, none⟩)) (hS_.cell 0)) ?_
    have hq_ := guard_some h; clear h; obtain ⟨c32, h⟩ := hq_
    have c32 : ¬ ((s3.L.length : Int) = 0) := c32
    refine takeG [9] (n := 3) (fuel := 2) (l' := #[true, true, true, true, true, true, true, true, true, true, false, false]) (a' := ⟨#[.pointer (some ⟨b1, 0, none⟩), .int .i64 n7, undef, undef, .int .i64 0, undef, undef, .pointer (some ⟨b1, 0, none⟩), .pointer (some ⟨b1, 0, none⟩), .pointer (some ⟨b1, 1, none⟩), .int .i64 s3.vat, .int .i64 (w64 (s3.vat + 1)), .pointer (some ⟨b1, 0, none⟩), .pointer (some ⟨b1, 1, none⟩), .pointer (some ⟨b1, 0, none⟩), .pointer (some ⟨b1, 0, none⟩), .pointer (some ⟨b1, 0, none⟩), .slice A4 s3.L.length c5, .int .i64 (s3.L.length : Int), .bool false, undef, undef, undef, undef, undef, undef, undef, .pointer (some ⟨b1, 0, none⟩), .pointer (some ⟨b1, 0, none⟩), .pointer (some ⟨b1, 1, none⟩), .int .i64 (w64 (s3.vat + 1)), .int .i64 (w64 ((w64 (s3.vat + 1)) - 1)), .pointer (some ⟨b1, 0, none⟩), .pointer (some ⟨b1, 0, none⟩), .pointer (some ⟨b1, 0, none⟩), .slice A4 s3.L.length c5, .int .i64 (s3.L.length : Int), undef, undef, undef, undef, undef, undef, undef, undef, undef, undef, undef, undef, undef, undef, undef, undef, undef, undef, undef, undef, undef, undef, undef, undef, undef, undef, undef], []⟩) rfl (by kernel_rfl) (by kernel_rfl) (by kernel_rfl) hnp (Sg.g0 (Sx.of [] (FM.le.refl _) HS31)) ?_
    refine takeGQ 10 [] rfl (by kernel_rfl) (by kernel_rfl) (by kernel_rfl) (by kernel_rfl) (by kernel_rfl) (by kernel_rfl) hnp (Sg.g0 (Sx.of [] (FM.le.refl _) HS31)) (fun w_ hw_ => by obtain ⟨g_, hl_, hS_⟩ := hw_.st; exact run_rem rfl (by kernel_rfl : _ = Value.int .i64 (w64 ((w64 (s3.vat + 1)) - 1))) (by kernel_rfl : _ = Value.int .i64 (s3.L.length : Int)) c32 w_) ?_
    refine takeG [11] (n := 1) (fuel := 0) (l' := #[true, true, true, true, true, true, true, true, true, true, true, true]) (a' := ⟨#[.pointer (some ⟨b1, 0, none⟩), .int .i64 n7, undef, undef, .int .i64 0, .int .i64 (Int.tmod (w64 ((w64 (s3.vat + 1)) - 1)) (s3.L.length : Int)), undef, .pointer (some ⟨b1, 0, none⟩), .pointer (some ⟨b1, 0, none⟩), .pointer (some ⟨b1, 1, none⟩), .int .i64 s3.vat, .int .i64 (w64 (s3.vat + 1)), .pointer (some ⟨b1, 0, none⟩), .pointer (some ⟨b1, 1, none⟩), .pointer (some ⟨b1, 0, none⟩), .pointer (some ⟨b1, 0, none⟩), .pointer (some ⟨b1, 0, none⟩), .slice A4 s3.L.length c5, .int .i64 (s3.L.length : Int), .bool false, undef, undef, undef, undef, undef, undef, undef, .pointer (some ⟨b1, 0, none⟩), .pointer (some ⟨b1, 0, none⟩), .pointer (some ⟨b1, 1, none⟩), .int .i64 (w64 (s3.vat + 1)), .int .i64 (w64 ((w64 (s3.vat + 1)) - 1)), .pointer (some ⟨b1, 0, none⟩), .pointer (some ⟨b1, 0, none⟩), .pointer (some ⟨b1, 0, none⟩), .slice A4 s3.L.length c5, .int .i64 (s3.L.length : Int), .int .i64 (Int.tmod (w64 ((w64 (s3.vat + 1)) - 1)) (s3.L.length : Int)), undef, undef, undef, undef, undef, undef, undef, undef, undef, undef, undef, undef, undef, undef, undef, undef, undef, undef, undef, undef, undef, undef, undef, undef, undef, undef], []⟩) rfl (by kernel_rfl) (by kernel_rfl) (by kernel_rfl) hnp (Sg.g0 (Sx.of [] (FM.le.refl _) HS31)) ?_
    refine doneG (by kernel_rfl) ?_ _
    refine hK29 _ _ ?_
    refine wp_seq_k (fun K33 hK34 => ?_)
    refine heldG (S := Sg t f ([(b1, .cells #[.slice A4 s3.L.length c5, .int .i64 (w64 (s3.vat + 1))] 25 (0, 0))] :: H) []) (n := 12) (by kernel_rfl) rfl HS31 ?_
    intro W35 HS36
    refine takeG [0, 1, 2] (n := 12) (fuel := 9) (l' := #[true, true, true, false, false, false, false, false, false, false, false, false]) (a' := ⟨#[.pointer (some ⟨b1, 0, none⟩), .int .i64 n7, undef, undef, .int .i64 0, .int .i64 (Int.tmod (w64 ((w64 (s3.vat + 1)) - 1)) (s3.L.length : Int)), undef, .pointer (some ⟨b1, 0, none⟩), .pointer (some ⟨b1, 0, none⟩), .pointer (some ⟨b1, 1, none⟩), .int .i64 s3.vat, .int .i64 (w64 (s3.vat + 1)), .pointer (some ⟨b1, 0, none⟩), .pointer (some ⟨b1, 1, none⟩), .pointer (some ⟨b1, 0, none⟩), .pointer (some ⟨b1, 0, none⟩), .pointer (some ⟨b1, 0, none⟩), .slice A4 s3.L.length c5, .int .i64 (s3.L.length : Int), .bool false, undef, undef, undef, undef, undef, undef, undef, .pointer (some ⟨b1, 0, none⟩), .pointer (some ⟨b1, 0, none⟩), .pointer (some ⟨b1, 1, none⟩), .int .i64 (w64 (s3.vat + 1)), .int .i64 (w64 ((w64 (s3.vat + 1)) - 1)), .pointer (some ⟨b1, 0, none⟩), .pointer (some ⟨b1, 0, none⟩), .pointer (some ⟨b1, 0, none⟩), .slice A4 s3.L.length c5, .int .i64 (s3.L.length : Int), .int .i64 (Int.tmod (w64 ((w64 (s3.vat + 1)) - 1)) (s3.L.length : Int)), .pointer (some ⟨b1, 0, none⟩), .pointer (some ⟨b1, 0, none⟩), .pointer (some ⟨b1, 1, none⟩), undef, undef, undef, undef, undef, undef, undef, undef, undef, undef, undef, undef, undef, undef, undef, undef, undef, undef, undef, undef, undef, undef, undef], []⟩) rfl (by kernel_rfl) (by kernel_rfl) (by kernel_rfl) hnp (Sg.g0 (Sx.of [] (FM.le.refl _) HS36)) ?_
    refine takeGQ 3 [] rfl (by kernel_rfl) (by kernel_rfl) (by kernel_rfl) (by kernel_rfl) (by kernel_rfl) (by kernel_rfl) hnp (Sg.g0 (Sx.of [] (FM.le.refl _) HS36)) (fun w_ hw_ => by obtain ⟨g_, hl_, hS_⟩ := hw_.st; exact run_load rfl Try.underlying3 rfl (by kernel_rfl : _ = Value.pointer (some ⟨b1, 1, none⟩)) (hS_.cell 1)) ?_
    refine takeG [4, 5, 6, 7] (n := 8) (fuel := 4) (l' := #[true, true, true, true, true, true, true, true, false, false, false, false]) (a' := ⟨#[.pointer (some ⟨b1, 0, none⟩), .int .i64 n7, undef, undef, .int .i64 0, .int .i64 (Int.tmod (w64 ((w64 (s3.vat + 1)) - 1)) (s3.L.length : Int)), undef, .pointer (some ⟨b1, 0, none⟩), .pointer (some ⟨b1, 0, none⟩), .pointer (some ⟨b1, 1, none⟩), .int .i64 s3.vat, .int .i64 (w64 (s3.vat + 1)), .pointer (some ⟨b1, 0, none⟩), .pointer (some ⟨b1, 1, none⟩), .pointer (some ⟨b1, 0, none⟩), .pointer (some ⟨b1, 0, none⟩), .pointer (some ⟨b1, 0, none⟩), .slice A4 s3.L.length c5, .int .i64 (s3.L.length : Int), .bool false, undef, undef, undef, undef, undef, undef, undef, .pointer (some ⟨b1, 0, none⟩), .pointer (some ⟨b1, 0, none⟩), .pointer (some ⟨b1, 1, none⟩), .int .i64 (w64 (s3.vat + 1)), .int .i64 (w64 ((w64 (s3.vat + 1)) - 1)), .pointer (some ⟨b1, 0, none⟩), .pointer (some ⟨b1, 0, none⟩), .pointer (some ⟨b1, 0, none⟩), .slice A4 s3.L.length c5, .int .i64 (s3.L.length : Int), .int .i64 (Int.tmod (w64 ((w64 (s3.vat + 1)) - 1)) (s3.L.length : Int)), .pointer (some ⟨b1, 0, none⟩), .pointer (some ⟨b1, 0, none⟩), .pointer (some ⟨b1, 1, none⟩), .int .i64 (w64 (s3.vat + 1)), .int .i64 (w64 ((w64 (s3.vat + 1)) - 1)), .pointer (some ⟨b1, 0, none⟩), .pointer (some ⟨b1, 0, none⟩), .pointer (some ⟨b1, 0, none⟩), undef, undef, undef, undef, undef, undef, undef, undef, undef, undef, undef, undef, undef, undef, undef, undef, undef, undef], []⟩) rfl (by kernel_rfl) (by kernel_rfl) (by kernel_rfl) hnp (Sg.g0 (Sx.of [] (FM.le.refl _) HS36)) ?_
    refine takeGQ 8 [] rfl (by kernel_rfl) (by kernel_rfl) (by kernel_rfl) (by kernel_rfl) (by kernel_rfl) (by kernel_rfl) hnp (Sg.g0 (Sx.of [] (FM.le.refl _) HS36)) (fun w_ hw_ => by obtain ⟨g_, hl_, hS_⟩ := hw_.st; exact run_load rfl Try.underlying22 rfl (by kernel_rfl : _ = Value.pointer (some ⟨b1, 0, none⟩)) (hS_.cell 0)) ?_
    refine takeG [9] (n := 3) (fuel := 2) (l' := #[true, true, true, true, true, true, true, true, true, true, false, false]) (a' := ⟨#[.pointer (some ⟨b1, 0, none⟩), .int .i64 n7, undef, undef, .int .i64 0, .int .i64 (Int.tmod (w64 ((w64 (s3.vat + 1)) - 1)) (s3.L.length : Int)), undef, .pointer (some ⟨b1, 0, none⟩), .pointer (some ⟨b1, 0, none⟩), .pointer (some ⟨b1, 1, none⟩), .int .i64 s3.vat, .int .i64 (w64 (s3.vat + 1)), .pointer (some ⟨b1, 0, none⟩), .pointer (some ⟨b1, 1, none⟩), .pointer (some ⟨b1, 0, none⟩), .pointer (some ⟨b1, 0, none⟩), .pointer (some ⟨b1, 0, none⟩), .slice A4 s3.L.length c5, .int .i64 (s3.L.length : Int), .bool false, undef, undef, undef, undef, undef, undef, undef, .pointer (some ⟨b1, 0, none⟩), .pointer (some ⟨b1, 0, none⟩), .pointer (some ⟨b1, 1, none⟩), .int .i64 (w64 (s3.vat + 1)), .int .i64 (w64 ((w64 (s3.vat + 1)) - 1)), .pointer (some ⟨b1, 0, none⟩), .pointer (some ⟨b1, 0, none⟩), .pointer (some ⟨b1, 0, none⟩), .slice A4 s3.L.length c5, .int .i64 (s3.L.length : Int), .int .i64 (Int.tmod (w64 ((w64 (s3.vat + 1)) - 1)) (s3.L.length : Int)), .pointer (some ⟨b1, 0, none⟩), .pointer (some ⟨b1, 0, none⟩), .pointer (some ⟨b1, 1, none⟩), .int .i64 (w64 (s3.vat + 1)), .int .i64 (w64 ((w64 (s3.vat + 1)) - 1)), .pointer (some ⟨b1, 0, none⟩), .pointer (some ⟨b1, 0, none⟩), .pointer (some ⟨b1, 0, none⟩), .slice A4 s3.L.length c5, .int .i64 (s3.L.length : Int), undef, undef, undef, undef, undef, undef, undef, undef, undef, undef, undef, undef, undef, undef, undef, undef], []⟩) rfl (by kernel_rfl) (by kernel_rfl) (by kernel_rfl) hnp (Sg.g0 (Sx.of [] (FM.le.refl _) HS36)) ?_
    refine takeGQ 10 [] rfl (by kernel_rfl) (by kernel_rfl) (by kernel_rfl) (by kernel_rfl) (by kernel_rfl) (by kernel_rfl) hnp (Sg.g0 (Sx.of [] (FM.le.refl _) HS36)) (fun w_ hw_ => by obtain ⟨g_, hl_, hS_⟩ := hw_.st; exact run_div rfl (by kernel_rfl : _ = Value.int .i64 (w64 ((w64 (s3.vat + 1)) - 1))) (by kernel_rfl : _ = Value.int .i64 (s3.L.length : Int)) c32 w_) ?_
    refine takeG [11] (n := 1) (fuel := 0) (l' := #[true, true, true, true, true, true, true, true, true, true, true, true]) (a' := ⟨#[.pointer (some ⟨b1, 0, none⟩), .int .i64 n7, undef, undef, .int .i64 0, .int .i64 (Int.tmod (w64 ((w64 (s3.vat + 1)) - 1)) (s3.L.length : Int)), .int .i64 (w64 (Int.tdiv (w64 ((w64 (s3.vat + 1)) - 1)) (s3.L.length : Int))), .pointer (some ⟨b1, 0, none⟩), .pointer (some ⟨b1, 0, none⟩), .pointer (some ⟨b1, 1, none⟩), .int .i64 s3.vat, .int .i64 (w64 (s3.vat + 1)), .pointer (some ⟨b1, 0, none⟩), .pointer (some ⟨b1, 1, none⟩), .pointer (some ⟨b1, 0, none⟩), .pointer (some ⟨b1, 0, none⟩), .pointer (some ⟨b1, 0, none⟩), .slice A4 s3.L.length c5, .int .i64 (s3.L.length : Int), .bool false, undef, undef, undef, undef, undef, undef, undef, .pointer (some ⟨b1, 0, none⟩), .pointer (some ⟨b1, 0, none⟩), .pointer (some ⟨b1, 1, none⟩), .int .i64 (w64 (s3.vat + 1)), .int .i64 (w64 ((w64 (s3.vat + 1)) - 1)), .pointer (some ⟨b1, 0, none⟩), .pointer (some ⟨b1, 0, none⟩), .pointer (some ⟨b1, 0, none⟩), .slice A4 s3.L.length c5, .int .i64 (s3.L.length : Int), .int .i64 (Int.tmod (w64 ((w64 (s3.vat + 1)) - 1)) (s3.L.length : Int)), .pointer (some ⟨b1, 0, none⟩), .pointer (some ⟨b1, 0, none⟩), .pointer (some ⟨b1, 1, none⟩), .int .i64 (w64 (s3.vat + 1)), .int .i64 (w64 ((w64 (s3.vat + 1)) - 1)), .pointer (some ⟨b1, 0, none⟩), .pointer (some ⟨b1, 0, none⟩), .pointer (some ⟨b1, 0, none⟩), .slice A4 s3.L.length c5, .int .i64 (s3.L.length : Int), .int .i64 (w64 (Int.tdiv (w64 ((w64 (s3.vat + 1)) - 1)) (s3.L.length : Int))), undef, undef, undef, undef, undef, undef, undef, undef, undef, undef, undef, undef, undef, undef, undef], []⟩) rfl (by kernel_rfl) (by kernel_rfl) (by kernel_rfl) hnp (Sg.g0 (Sx.of [] (FM.le.refl _) HS36)) ?_
    refine doneG (by kernel_rfl) ?_ _
    refine hK34 _ _ ?_
    refine wp_seq_k (fun K37 hK38 => ?_)
    refine wp_region_lit ?_
    refine seqL3 (by kernel_rfl) ?_
    refine seqK rfl (does_run (run_load rfl Try.underlying22 rfl (by kernel_rfl : _ = Value.pointer (some ⟨b1, 0, none⟩)) (HS36.cell 0)) ?_)
    have hq_ := guard_some h; clear h; obtain ⟨c39, h⟩ := hq_
    have c39 : 0 ≤ (Int.tmod (w64 ((w64 (s3.vat + 1)) - 1)) (s3.L.length : Int)) := c39
    have hq_ := guard_some h; clear h; obtain ⟨c40, h⟩ := hq_
    have c40 : (Int.tmod (w64 ((w64 (s3.vat + 1)) - 1)) (s3.L.length : Int)) < (s3.L.length : Int) := c40
    obtain ⟨b44, of45, cs41, rfl, hr42, hc43⟩ := HR6.at (i := Int.tmod (w64 ((w64 (s3.vat + 1)) - 1)) (s3.L.length : Int)) c39 c40
    obtain rfl := hr42
    refine seqL1 (by kernel_rfl) ?_
    refine seqK rfl (does_run (run_index (sz := 1) rfl Try.underlying22 (by kernel_rfl) (by kernel_rfl : _ = Value.slice (some ⟨b44, of45, none⟩) s3.L.length c5) (by kernel_rfl : _ = Value.int .i64 (Int.tmod (w64 ((w64 (s3.vat + 1)) - 1)) (s3.L.length : Int))) c39 c40 W35) ?_)
    refine seqK rfl (does_run (run_load rfl Try.underlying3 rfl (by kernel_rfl : _ = Value.pointer (some ⟨b44, of45 + (Int.tmod (w64 ((w64 (s3.vat + 1)) - 1)) (s3.L.length : Int) : Int).toNat * 1, none⟩)) ((hc43 (FM.le.refl _) HS36) 0 (by decide))) ?_)
    have hq_ := bind_some h; clear h; obtain ⟨vt46, hc47, h⟩ := hq_
    refine seqK rfl (does_call (f := 10) (args := #[.int .i64 (rd s3.L (Int.tmod (w64 ((w64 (s3.vat + 1)) - 1)) (s3.L.length : Int))), .int .i64 1073741824]) (by kernel_rfl) (spymake_Below.calls k (rd s3.L (Int.tmod (w64 ((w64 (s3.vat + 1)) - 1)) (s3.L.length : Int))) 1073741824 HS36 vt46 hc47) ?_)
    rintro _ W50 ⟨f48, rfl, L49, HS51⟩
    refine ⟨_, rfl, ?_⟩
    have hq_ := bind_some h; clear h; obtain ⟨vt52, hc53, h⟩ := hq_
    refine seqL6 (by kernel_rfl) ?_
    refine seqK rfl (does_call (f := 10) (args := #[.int .i64 (w64 (vt46 + (w64 ((w64 (Int.tdiv (w64 ((w64 (s3.vat + 1)) - 1)) (s3.L.length : Int))) * (w64 (7919 + (Int.tmod (w64 ((w64 (s3.vat + 1)) - 1)) (s3.L.length : Int)))))))), .int .i64 n7]) (by kernel_rfl) (spymake_Below.calls k (w64 (vt46 + (w64 ((w64 (Int.tdiv (w64 ((w64 (s3.vat + 1)) - 1)) (s3.L.length : Int))) * (w64 (7919 + (Int.tmod (w64 ((w64 (s3.vat + 1)) - 1)) (s3.L.length : Int)))))))) n7 HS51 vt52 hc53) ?_)
    rintro _ W56 ⟨f54, rfl, L55, HS57⟩
    refine ⟨_, rfl, ?_⟩
    refine seqS1 (a' := ⟨#[.pointer (some ⟨b1, 0, none⟩), .int .i64 n7, undef, undef, .int .i64 vt52, .int .i64 (Int.tmod (w64 ((w64 (s3.vat + 1)) - 1)) (s3.L.length : Int)), .int .i64 (w64 (Int.tdiv (w64 ((w64 (s3.vat + 1)) - 1)) (s3.L.length : Int))), .pointer (some ⟨b1, 0, none⟩), .pointer (some ⟨b1, 0, none⟩), .pointer (some ⟨b1, 1, none⟩), .int .i64 s3.vat, .int .i64 (w64 (s3.vat + 1)), .pointer (some ⟨b1, 0, none⟩), .pointer (some ⟨b1, 1, none⟩), .pointer (some ⟨b1, 0, none⟩), .pointer (some ⟨b1, 0, none⟩), .pointer (some ⟨b1, 0, none⟩), .slice (some ⟨b44, of45, none⟩) s3.L.length c5, .int .i64 (s3.L.length : Int), .bool false, undef, undef, undef, undef, undef, undef, undef, .pointer (some ⟨b1, 0, none⟩), .pointer (some ⟨b1, 0, none⟩), .pointer (some ⟨b1, 1, none⟩), .int .i64 (w64 (s3.vat + 1)), .int .i64 (w64 ((w64 (s3.vat + 1)) - 1)), .pointer (some ⟨b1, 0, none⟩), .pointer (some ⟨b1, 0, none⟩), .pointer (some ⟨b1, 0, none⟩), .slice (some ⟨b44, of45, none⟩) s3.L.length c5, .int .i64 (s3.L.length : Int), .int .i64 (Int.tmod (w64 ((w64 (s3.vat + 1)) - 1)) (s3.L.length : Int)), .pointer (some ⟨b1, 0, none⟩), .pointer (some ⟨b1, 0, none⟩), .pointer (some ⟨b1, 1, none⟩), .int .i64 (w64 (s3.vat + 1)), .int .i64 (w64 ((w64 (s3.vat + 1)) - 1)), .pointer (some ⟨b1, 0, none⟩), .pointer (some ⟨b1, 0, none⟩), .pointer (some ⟨b1, 0, none⟩), .slice (some ⟨b44, of45, none⟩) s3.L.length c5, .int .i64 (s3.L.length : Int), .int .i64 (w64 (Int.tdiv (w64 ((w64 (s3.vat + 1)) - 1)) (s3.L.length : Int))), .pointer (some ⟨b1, 0, none⟩), .pointer (some ⟨b1, 0, none⟩), .pointer (some ⟨b1, 0, none⟩), .slice (some ⟨b44, of45, none⟩) s3.L.length c5, .int .i64 (Int.tmod (w64 ((w64 (s3.vat + 1)) - 1)) (s3.L.length : Int)), .pointer (some ⟨b44, of45 + (Int.tmod (w64 ((w64 (s3.vat + 1)) - 1)) (s3.L.length : Int) : Int).toNat * 1, none⟩), .int .i64 (rd s3.L (Int.tmod (w64 ((w64 (s3.vat + 1)) - 1)) (s3.L.length : Int))), .int .i64 vt46, .int .i64 (w64 (Int.tdiv (w64 ((w64 (s3.vat + 1)) - 1)) (s3.L.length : Int))), .int .i64 (Int.tmod (w64 ((w64 (s3.vat + 1)) - 1)) (s3.L.length : Int)), .int .i64 (w64 (7919 + (Int.tmod (w64 ((w64 (s3.vat + 1)) - 1)) (s3.L.length : Int)))), .int .i64 (w64 ((w64 (Int.tdiv (w64 ((w64 (s3.vat + 1)) - 1)) (s3.L.length : Int))) * (w64 (7919 + (Int.tmod (w64 ((w64 (s3.vat + 1)) - 1)) (s3.L.length : Int)))))), .int .i64 (w64 (vt46 + (w64 ((w64 (Int.tdiv (w64 ((w64 (s3.vat + 1)) - 1)) (s3.L.length : Int))) * (w64 (7919 + (Int.tmod (w64 ((w64 (s3.vat + 1)) - 1)) (s3.L.length : Int)))))))), .int .i64 n7, .int .i64 vt52], []⟩) (by kernel_rfl) ?_
    refine wpList_nil ?_
    refine hK38 _ _ ?_
    refine wp_ret ?_
    refine hret _ _ ?_
    refine ends_still (v := Value.int .i64 vt52) (by kernel_rfl) (by kernel_rfl) ?_
    injection h with h
    injection h with h0_ h
    subst h0_ h
    exact ⟨f54, rfl, (L49.trans L55), HS57⟩

set_option maxRecDepth 100000 in
set_option maxHeartbeats 4000000 in
theorem bound_Check_Quanta.calls (k : Nat)  (b1 : S_Bound) {t w : World} {f : FM} {H : List Seg} (HS : St t w f (H)) (r1 : Int) (h : bound_Check_Quanta k b1 = some r1) :
    Calls Try.prog 71 #[.agg #[.int .i64 b1.Lo, .int .i64 b1.Hi, .bool b1.Unknown]] w (fun e w' => ∃ (g : FM), e = .returned (Value.int .i64 r1) ∧ FM.le f g ∧ St t w' g (H)) := by
  unfold bound_Check_Quanta at h
  refine enter Try.func71 rfl (tm := #[.agg #[.int .i64 b1.Lo, .int .i64 b1.Hi, .bool b1.Unknown], undef, undef, undef, undef, undef, undef, undef, undef, undef, undef, undef, undef, undef, undef, undef, undef, undef, undef, undef, undef, undef, undef, undef, undef, undef, undef, undef, undef, undef, undef, undef, undef, undef, undef, undef, undef]) (by kernel_rfl) ?_
  intro B hret hnor hnp
  refine wp_seq_k (fun K2 hK3 => ?_)
  refine wp_region_lit ?_
  refine seqK rfl (does_box (cs := #[.int .i64 b1.Lo, .int .i64 b1.Hi, .bool b1.Unknown]) rfl (by kernel_rfl : _ = Value.agg #[.int .i64 b1.Lo, .int .i64 b1.Hi, .bool b1.Unknown]) rfl HS ?_)
  intro b4 W5 HS6
  refine seqS1 (a' := ⟨#[.agg #[.int .i64 b1.Lo, .int .i64 b1.Hi, .bool b1.Unknown], .pointer (some ⟨b4, 0, none⟩), .int .i64 0, undef, undef, undef, undef, undef, undef, undef, undef, undef, undef, undef, undef, undef, undef, undef, undef, undef, undef, undef, undef, undef, undef, undef, undef, undef, undef, undef, undef, undef, undef, undef, undef, undef, undef], []⟩) (by kernel_rfl) ?_
  refine wpList_nil ?_
  refine hK3 _ _ ?_
  refine wp_seq_k (fun K8 hK9 => ?_)
  refine blockK (fun B10 hx11 hn12 hr13 ho14 hp15 => ?_)
  refine wp_seq_k (fun K17 hK18 => ?_)
  refine wp_region_lit ?_
  refine seqL1 (by kernel_rfl) ?_
  refine seqK rfl (does_run (run_load rfl Try.underlying4 rfl (by kernel_rfl : _ = Value.pointer (some ⟨b4, 2, none⟩)) (HS6.cell 2)) ?_)
  refine seqS1 (a' := ⟨#[.agg #[.int .i64 b1.Lo, .int .i64 b1.Hi, .bool b1.Unknown], .pointer (some ⟨b4, 0, none⟩), .int .i64 0, undef, .pointer (some ⟨b4, 2, none⟩), .bool b1.Unknown, .bool b1.Unknown, undef, undef, undef, undef, undef, undef, undef, undef, undef, undef, undef, undef, undef, undef, undef, undef, undef, undef, undef, undef, undef, undef, undef, undef, undef, undef, undef, undef, undef, undef], []⟩) (by kernel_rfl) ?_
  have hq_ := ite_some h; clear h; rcases hq_ with ⟨c19, h⟩ | ⟨c19, h⟩
  · have c19 : b1.Unknown = true := c19
    refine seqRwI 5 (x := b1.Unknown) (v := true) (by kernel_rfl) c19 ?_
    refine seqRwI 6 (x := b1.Unknown) (v := true) (by kernel_rfl) c19 ?_
    refine seqL1 (by kernel_rfl) ?_
    refine seqG (by kernel_rfl) (does_run (run_load rfl Try.underlying42 rfl (by kernel_rfl : _ = Value.pointer (some ⟨b4, 0, none⟩)) (HS6.cell 0)) ?_)
    refine seqS2 (a' := ⟨#[.agg #[.int .i64 b1.Lo, .int .i64 b1.Hi, .bool b1.Unknown], .pointer (some ⟨b4, 0, none⟩), .int .i64 0, undef, .pointer (some ⟨b4, 2, none⟩), .bool true, .bool true, .pointer (some ⟨b4, 0, none⟩), .int .i64 b1.Lo, .bool (b1.Lo != 0), .bool (b1.Lo != 0), undef, undef, undef, undef, undef, undef, undef, undef, undef, undef, undef, undef, undef, undef, undef, undef, undef, undef, undef, undef, undef, undef, undef, undef, undef, undef], []⟩) (by kernel_rfl) ?_
    have hq_ := ite_some h; clear h; rcases hq_ with ⟨c20, h⟩ | ⟨c20, h⟩
    · have c20 : b1.Lo ≠ 0 := c20
      refine seqRwI 9 (x := (b1.Lo != 0)) (v := true) (by kernel_rfl) (bne_iff_ne.mpr c20) ?_
      refine seqRwI 10 (x := (b1.Lo != 0)) (v := true) (by kernel_rfl) (bne_iff_ne.mpr c20) ?_
      refine seqS6 (a' := ⟨#[.agg #[.int .i64 b1.Lo, .int .i64 b1.Hi, .bool b1.Unknown], .pointer (some ⟨b4, 0, none⟩), .int .i64 0, .bool true, .pointer (some ⟨b4, 2, none⟩), .bool true, .bool true, .pointer (some ⟨b4, 0, none⟩), .int .i64 b1.Lo, .bool true, .bool true, undef, undef, undef, .bool true, .bool true, undef, undef, undef, undef, undef, undef, undef, undef, undef, undef, undef, undef, undef, undef, undef, undef, undef, undef, undef, undef, undef], []⟩) (by kernel_rfl) ?_
      refine wpList_nil ?_
      refine hK18 _ _ ?_
      refine condT (by kernel_rfl) ?_
      refine wp_seq_k (fun K21 hK22 => ?_)
      refine wp_region_lit ?_
      refine seqS1 (a' := ⟨#[.agg #[.int .i64 b1.Lo, .int .i64 b1.Hi, .bool b1.Unknown], .pointer (some ⟨b4, 0, none⟩), .int .i64 3, .bool true, .pointer (some ⟨b4, 2, none⟩), .bool true, .bool true, .pointer (some ⟨b4, 0, none⟩), .int .i64 b1.Lo, .bool true, .bool true, undef, undef, undef, .bool true, .bool true, undef, undef, undef, undef, undef, undef, undef, undef, undef, undef, undef, undef, undef, undef, undef, undef, undef, undef, undef, undef, undef], []⟩) (by kernel_rfl) ?_
      refine wpList_nil ?_
      refine hK22 _ _ ?_
      refine wp_ret ?_
      refine hr13 _ _ ?_
      refine hret _ _ ?_
      refine ends_still (v := Value.int .i64 3) (by kernel_rfl) (by kernel_rfl) ?_
      have HS61 := HS6.drop
      injection h with h
      subst h
      exact ⟨f, rfl, FM.le.refl _, HS61⟩
    · have c20 : ¬ (b1.Lo ≠ 0) := c20
      refine seqRwI 9 (x := (b1.Lo != 0)) (v := false) (by kernel_rfl) (bne_eq_false_iff_eq.mpr (Decidable.of_not_not c20)) ?_
      refine seqRwI 10 (x := (b1.Lo != 0)) (v := false) (by kernel_rfl) (bne_eq_false_iff_eq.mpr (Decidable.of_not_not c20)) ?_
      refine seqL1 (by kernel_rfl) ?_
      refine seqG (by kernel_rfl) (does_run (run_load rfl Try.underlying42 rfl (by kernel_rfl : _ = Value.pointer (some ⟨b4, 1, none⟩)) (HS6.cell 1)) ?_)
      refine seqS4 (a' := ⟨#[.agg #[.int .i64 b1.Lo, .int .i64 b1.Hi, .bool b1.Unknown], .pointer (some ⟨b4, 0, none⟩), .int .i64 0, .bool (b1.Hi != 0), .pointer (some ⟨b4, 2, none⟩), .bool true, .bool true, .pointer (some ⟨b4, 0, none⟩), .int .i64 b1.Lo, .bool false, .bool false, .pointer (some ⟨b4, 1, none⟩), .int .i64 b1.Hi, .bool (b1.Hi != 0), .bool (b1.Hi != 0), .bool (b1.Hi != 0), undef, undef, undef, undef, undef, undef, undef, undef, undef, undef, undef, undef, undef, undef, undef, undef, undef, undef, undef, undef, undef], []⟩) (by kernel_rfl) ?_
      refine wpList_nil ?_
      refine hK18 _ _ ?_
      have hq_ := ite_some h; clear h; rcases hq_ with ⟨c24, h⟩ | ⟨c24, h⟩
      · have c24 : b1.Hi ≠ 0 := c24
        refine wpRwI 3 (x := (b1.Hi != 0)) (v := true) (by kernel_rfl) (bne_iff_ne.mpr c24) ?_
        refine wpRwI 13 (x := (b1.Hi != 0)) (v := true) (by kernel_rfl) (bne_iff_ne.mpr c24) ?_
        refine wpRwI 14 (x := (b1.Hi != 0)) (v := true) (by kernel_rfl) (bne_iff_ne.mpr c24) ?_
        refine wpRwI 15 (x := (b1.Hi != 0)) (v := true) (by kernel_rfl) (bne_iff_ne.mpr c24) ?_
        refine condT (by kernel_rfl) ?_
        refine wp_seq_k (fun K25 hK26 => ?_)
        refine wp_region_lit ?_
        refine seqS1 (a' := ⟨#[.agg #[.int .i64 b1.Lo, .int .i64 b1.Hi, .bool b1.Unknown], .pointer (some ⟨b4, 0, none⟩), .int .i64 3, .bool true, .pointer (some ⟨b4, 2, none⟩), .bool true, .bool true, .pointer (some ⟨b4, 0, none⟩), .int .i64 b1.Lo, .bool false, .bool false, .pointer (some ⟨b4, 1, none⟩), .int .i64 b1.Hi, .bool true, .bool true, .bool true, undef, undef, undef, undef, undef, undef, undef, undef, undef, undef, undef, undef, undef, undef, undef, undef, undef, undef, undef, undef, undef], []⟩) (by kernel_rfl) ?_
        refine wpList_nil ?_
        refine hK26 _ _ ?_
        refine wp_ret ?_
        refine hr13 _ _ ?_
        refine hret _ _ ?_
        refine ends_still (v := Value.int .i64 3) (by kernel_rfl) (by kernel_rfl) ?_
        have HS62 := HS6.drop
        injection h with h
        subst h
        exact ⟨f, rfl, FM.le.refl _, HS62⟩
      · have c24 : ¬ (b1.Hi ≠ 0) := c24
        refine wpRwI 3 (x := (b1.Hi != 0)) (v := false) (by kernel_rfl) (bne_eq_false_iff_eq.mpr (Decidable.of_not_not c24)) ?_
        refine wpRwI 13 (x := (b1.Hi != 0)) (v := false) (by kernel_rfl) (bne_eq_false_iff_eq.mpr (Decidable.of_not_not c24)) ?_
        refine wpRwI 14 (x := (b1.Hi != 0)) (v := false) (by kernel_rfl) (bne_eq_false_iff_eq.mpr (Decidable.of_not_not c24)) ?_
        refine wpRwI 15 (x := (b1.Hi != 0)) (v := false) (by kernel_rfl) (bne_eq_false_iff_eq.mpr (Decidable.of_not_not c24)) ?_
        refine condF (by kernel_rfl) ?_
        refine wp_seq_k (fun K27 hK28 => ?_)
        refine wp_region_lit ?_
        refine seqL1 (by kernel_rfl) ?_
        refine seqK rfl (does_run (run_load rfl Try.underlying42 rfl (by kernel_rfl : _ = Value.pointer (some ⟨b4, 0, none⟩)) (HS6.cell 0)) ?_)
        refine seqL1 (by kernel_rfl) ?_
        refine seqK rfl (does_run (run_load rfl Try.underlying42 rfl (by kernel_rfl : _ = Value.pointer (some ⟨b4, 1, none⟩)) (HS6.cell 1)) ?_)
        refine seqS3 (a' := ⟨#[.agg #[.int .i64 b1.Lo, .int .i64 b1.Hi, .bool b1.Unknown], .pointer (some ⟨b4, 0, none⟩), .int .i64 0, .bool false, .pointer (some ⟨b4, 2, none⟩), .bool true, .bool true, .pointer (some ⟨b4, 0, none⟩), .int .i64 b1.Lo, .bool false, .bool false, .pointer (some ⟨b4, 1, none⟩), .int .i64 b1.Hi, .bool false, .bool false, .bool false, undef, .pointer (some ⟨b4, 0, none⟩), .int .i64 b1.Lo, .pointer (some ⟨b4, 1, none⟩), .int .i64 b1.Hi, .int .i64 (mn b1.Lo b1.Hi), .bool (decide ((mn b1.Lo b1.Hi) < (-1152921504606846976))), .bool (decide ((mn b1.Lo b1.Hi) < (-1152921504606846976))), undef, undef, undef, undef, undef, undef, undef, undef, undef, undef, undef, undef, undef], []⟩) (by kernel_rfl) ?_
        have hq_ := ite_some h; clear h; rcases hq_ with ⟨c29, h⟩ | ⟨c29, h⟩
        · have c29 : (mn b1.Lo b1.Hi) < (-1152921504606846976) := c29
          refine seqRwI 22 (x := (decide ((mn b1.Lo b1.Hi) < (-1152921504606846976)))) (v := true) (by kernel_rfl) (decide_eq_true c29) ?_
          refine seqRwI 23 (x := (decide ((mn b1.Lo b1.Hi) < (-1152921504606846976)))) (v := true) (by kernel_rfl) (decide_eq_true c29) ?_
          refine seqS8 (a' := ⟨#[.agg #[.int .i64 b1.Lo, .int .i64 b1.Hi, .bool b1.Unknown], .pointer (some ⟨b4, 0, none⟩), .int .i64 0, .bool false, .pointer (some ⟨b4, 2, none⟩), .bool true, .bool true, .pointer (some ⟨b4, 0, none⟩), .int .i64 b1.Lo, .bool false, .bool false, .pointer (some ⟨b4, 1, none⟩), .int .i64 b1.Hi, .bool false, .bool false, .bool false, .bool true, .pointer (some ⟨b4, 0, none⟩), .int .i64 b1.Lo, .pointer (some ⟨b4, 1, none⟩), .int .i64 b1.Hi, .int .i64 (mn b1.Lo b1.Hi), .bool true, .bool true, undef, undef, undef, undef, undef, undef, .bool true, undef, undef, undef, undef, undef, undef], []⟩) (by kernel_rfl) ?_
          refine wpList_nil ?_
          refine hK28 _ _ ?_
          refine condT (by kernel_rfl) ?_
          refine wp_seq_k (fun K30 hK31 => ?_)
          refine wp_region_lit ?_
          refine seqS1 (a' := ⟨#[.agg #[.int .i64 b1.Lo, .int .i64 b1.Hi, .bool b1.Unknown], .pointer (some ⟨b4, 0, none⟩), .int .i64 4, .bool false, .pointer (some ⟨b4, 2, none⟩), .bool true, .bool true, .pointer (some ⟨b4, 0, none⟩), .int .i64 b1.Lo, .bool false, .bool false, .pointer (some ⟨b4, 1, none⟩), .int .i64 b1.Hi, .bool false, .bool false, .bool false, .bool true, .pointer (some ⟨b4, 0, none⟩), .int .i64 b1.Lo, .pointer (some ⟨b4, 1, none⟩), .int .i64 b1.Hi, .int .i64 (mn b1.Lo b1.Hi), .bool true, .bool true, undef, undef, undef, undef, undef, undef, .bool true, undef, undef, undef, undef, undef, undef], []⟩) (by kernel_rfl) ?_
          refine wpList_nil ?_
          refine hK31 _ _ ?_
          refine wp_ret ?_
          refine hr13 _ _ ?_
          refine hret _ _ ?_
          refine ends_still (v := Value.int .i64 4) (by kernel_rfl) (by kernel_rfl) ?_
          have HS63 := HS6.drop
          injection h with h
          subst h
          exact ⟨f, rfl, FM.le.refl _, HS63⟩
        · have c29 : ¬ ((mn b1.Lo b1.Hi) < (-1152921504606846976)) := c29
          refine seqRwI 22 (x := (decide ((mn b1.Lo b1.Hi) < (-1152921504606846976)))) (v := false) (by kernel_rfl) (decide_eq_false c29) ?_
          refine seqRwI 23 (x := (decide ((mn b1.Lo b1.Hi) < (-1152921504606846976)))) (v := false) (by kernel_rfl) (decide_eq_false c29) ?_
          refine seqL1 (by kernel_rfl) ?_
          refine seqG (by kernel_rfl) (does_run (run_load rfl Try.underlying42 rfl (by kernel_rfl : _ = Value.pointer (some ⟨b4, 0, none⟩)) (HS6.cell 0)) ?_)
          refine seqL1 (by kernel_rfl) ?_
          refine seqG (by kernel_rfl) (does_run (run_load rfl Try.underlying42 rfl (by kernel_rfl : _ = Value.pointer (some ⟨b4, 1, none⟩)) (HS6.cell 1)) ?_)
          refine seqS4 (a' := ⟨#[.agg #[.int .i64 b1.Lo, .int .i64 b1.Hi, .bool b1.Unknown], .pointer (some ⟨b4, 0, none⟩), .int .i64 0, .bool false, .pointer (some ⟨b4, 2, none⟩), .bool true, .bool true, .pointer (some ⟨b4, 0, none⟩), .int .i64 b1.Lo, .bool false, .bool false, .pointer (some ⟨b4, 1, none⟩), .int .i64 b1.Hi, .bool false, .bool false, .bool false, .bool (decide ((mx b1.Lo b1.Hi) > 1152921504606846976)), .pointer (some ⟨b4, 0, none⟩), .int .i64 b1.Lo, .pointer (some ⟨b4, 1, none⟩), .int .i64 b1.Hi, .int .i64 (mn b1.Lo b1.Hi), .bool false, .bool false, .pointer (some ⟨b4, 0, none⟩), .int .i64 b1.Lo, .pointer (some ⟨b4, 1, none⟩), .int .i64 b1.Hi, .int .i64 (mx b1.Lo b1.Hi), .bool (decide ((mx b1.Lo b1.Hi) > 1152921504606846976)), .bool (decide ((mx b1.Lo b1.Hi) > 1152921504606846976)), undef, undef, undef, undef, undef, undef], []⟩) (by kernel_rfl) ?_
          refine wpList_nil ?_
          refine hK28 _ _ ?_
          have hq_ := ite_some h; clear h; rcases hq_ with ⟨c33, h⟩ | ⟨c33, h⟩
          · have c33 : (mx b1.Lo b1.Hi) > 1152921504606846976 := c33
            refine wpRwI 16 (x := (decide ((mx b1.Lo b1.Hi) > 1152921504606846976))) (v := true) (by kernel_rfl) (decide_eq_true c33) ?_
            refine wpRwI 29 (x := (decide ((mx b1.Lo b1.Hi) > 1152921504606846976))) (v := true) (by kernel_rfl) (decide_eq_true c33) ?_
            refine wpRwI 30 (x := (decide ((mx b1.Lo b1.Hi) > 1152921504606846976))) (v := true) (by kernel_rfl) (decide_eq_true c33) ?_
            refine condT (by kernel_rfl) ?_
            refine wp_seq_k (fun K34 hK35 => ?_)
            refine wp_region_lit ?_
            refine seqS1 (a' := ⟨#[.agg #[.int .i64 b1.Lo, .int .i64 b1.Hi, .bool b1.Unknown], .pointer (some ⟨b4, 0, none⟩), .int .i64 4, .bool false, .pointer (some ⟨b4, 2, none⟩), .bool true, .bool true, .pointer (some ⟨b4, 0, none⟩), .int .i64 b1.Lo, .bool false, .bool false, .pointer (some ⟨b4, 1, none⟩), .int .i64 b1.Hi, .bool false, .bool false, .bool false, .bool true, .pointer (some ⟨b4, 0, none⟩), .int .i64 b1.Lo, .pointer (some ⟨b4, 1, none⟩), .int .i64 b1.Hi, .int .i64 (mn b1.Lo b1.Hi), .bool false, .bool false, .pointer (some ⟨b4, 0, none⟩), .int .i64 b1.Lo, .pointer (some ⟨b4, 1, none⟩), .int .i64 b1.Hi, .int .i64 (mx b1.Lo b1.Hi), .bool true, .bool true, undef, undef, undef, undef, undef, undef], []⟩) (by kernel_rfl) ?_
            refine wpList_nil ?_
            refine hK35 _ _ ?_
            refine wp_ret ?_
            refine hr13 _ _ ?_
            refine hret _ _ ?_
            refine ends_still (v := Value.int .i64 4) (by kernel_rfl) (by kernel_rfl) ?_
            have HS64 := HS6.drop
            injection h with h
            subst h
            exact ⟨f, rfl, FM.le.refl _, HS64⟩
          · have c33 : ¬ ((mx b1.Lo b1.Hi) > 1152921504606846976) := c33
            refine wpRwI 16 (x := (decide ((mx b1.Lo b1.Hi) > 1152921504606846976))) (v := false) (by kernel_rfl) (decide_eq_false c33) ?_
            refine wpRwI 29 (x := (decide ((mx b1.Lo b1.Hi) > 1152921504606846976))) (v := false) (by kernel_rfl) (decide_eq_false c33) ?_
            refine wpRwI 30 (x := (decide ((mx b1.Lo b1.Hi) > 1152921504606846976))) (v := false) (by kernel_rfl) (decide_eq_false c33) ?_
            refine condF (by kernel_rfl) ?_
            refine wp_seq_k (fun K36 hK37 => ?_)
            refine wp_region_lit ?_
            refine seqL1 (by kernel_rfl) ?_
            refine seqK rfl (does_run (run_load rfl Try.underlying42 rfl (by kernel_rfl : _ = Value.pointer (some ⟨b4, 0, none⟩)) (HS6.cell 0)) ?_)
            refine seqL1 (by kernel_rfl) ?_
            refine seqK rfl (does_run (run_load rfl Try.underlying42 rfl (by kernel_rfl : _ = Value.pointer (some ⟨b4, 1, none⟩)) (HS6.cell 1)) ?_)
            refine seqS2 (a' := ⟨#[.agg #[.int .i64 b1.Lo, .int .i64 b1.Hi, .bool b1.Unknown], .pointer (some ⟨b4, 0, none⟩), .int .i64 0, .bool false, .pointer (some ⟨b4, 2, none⟩), .bool true, .bool true, .pointer (some ⟨b4, 0, none⟩), .int .i64 b1.Lo, .bool false, .bool false, .pointer (some ⟨b4, 1, none⟩), .int .i64 b1.Hi, .bool false, .bool false, .bool false, .bool false, .pointer (some ⟨b4, 0, none⟩), .int .i64 b1.Lo, .pointer (some ⟨b4, 1, none⟩), .int .i64 b1.Hi, .int .i64 (mn b1.Lo b1.Hi), .bool false, .bool false, .pointer (some ⟨b4, 0, none⟩), .int .i64 b1.Lo, .pointer (some ⟨b4, 1, none⟩), .int .i64 b1.Hi, .int .i64 (mx b1.Lo b1.Hi), .bool false, .bool false, .bool (decide (b1.Lo > b1.Hi)), .pointer (some ⟨b4, 0, none⟩), .int .i64 b1.Lo, .pointer (some ⟨b4, 1, none⟩), .int .i64 b1.Hi, .bool (decide (b1.Lo > b1.Hi))], []⟩) (by kernel_rfl) ?_
            refine wpList_nil ?_
            refine hK37 _ _ ?_
            have hq_ := ite_some h; clear h; rcases hq_ with ⟨c39, h⟩ | ⟨c39, h⟩
            · have c39 : b1.Lo > b1.Hi := c39
              refine wpRwI 31 (x := (decide (b1.Lo > b1.Hi))) (v := true) (by kernel_rfl) (decide_eq_true c39) ?_
              refine wpRwI 36 (x := (decide (b1.Lo > b1.Hi))) (v := true) (by kernel_rfl) (decide_eq_true c39) ?_
              refine condT (by kernel_rfl) ?_
              refine wp_seq_k (fun K40 hK41 => ?_)
              refine wp_region_lit ?_
              refine seqS1 (a' := ⟨#[.agg #[.int .i64 b1.Lo, .int .i64 b1.Hi, .bool b1.Unknown], .pointer (some ⟨b4, 0, none⟩), .int .i64 11, .bool false, .pointer (some ⟨b4, 2, none⟩), .bool true, .bool true, .pointer (some ⟨b4, 0, none⟩), .int .i64 b1.Lo, .bool false, .bool false, .pointer (some ⟨b4, 1, none⟩), .int .i64 b1.Hi, .bool false, .bool false, .bool false, .bool false, .pointer (some ⟨b4, 0, none⟩), .int .i64 b1.Lo, .pointer (some ⟨b4, 1, none⟩), .int .i64 b1.Hi, .int .i64 (mn b1.Lo b1.Hi), .bool false, .bool false, .pointer (some ⟨b4, 0, none⟩), .int .i64 b1.Lo, .pointer (some ⟨b4, 1, none⟩), .int .i64 b1.Hi, .int .i64 (mx b1.Lo b1.Hi), .bool false, .bool false, .bool true, .pointer (some ⟨b4, 0, none⟩), .int .i64 b1.Lo, .pointer (some ⟨b4, 1, none⟩), .int .i64 b1.Hi, .bool true], []⟩) (by kernel_rfl) ?_
              refine wpList_nil ?_
              refine hK41 _ _ ?_
              refine wp_ret ?_
              refine hr13 _ _ ?_
              refine hret _ _ ?_
              refine ends_still (v := Value.int .i64 11) (by kernel_rfl) (by kernel_rfl) ?_
              have HS65 := HS6.drop
              injection h with h
              subst h
              exact ⟨f, rfl, FM.le.refl _, HS65⟩
            · have c39 : ¬ (b1.Lo > b1.Hi) := c39
              refine wpRwI 31 (x := (decide (b1.Lo > b1.Hi))) (v := false) (by kernel_rfl) (decide_eq_false c39) ?_
              refine wpRwI 36 (x := (decide (b1.Lo > b1.Hi))) (v := false) (by kernel_rfl) (decide_eq_false c39) ?_
              refine condF (by kernel_rfl) ?_
              refine wp_skip ?_
              refine hn12 _ _ ?_
              refine hK9 _ _ ?_
              refine wp_seq_k (fun K57 hK58 => ?_)
              refine wp_region_lit ?_
              refine seqS1 (a' := ⟨#[.agg #[.int .i64 b1.Lo, .int .i64 b1.Hi, .bool b1.Unknown], .pointer (some ⟨b4, 0, none⟩), .int .i64 0, .bool false, .pointer (some ⟨b4, 2, none⟩), .bool true, .bool true, .pointer (some ⟨b4, 0, none⟩), .int .i64 b1.Lo, .bool false, .bool false, .pointer (some ⟨b4, 1, none⟩), .int .i64 b1.Hi, .bool false, .bool false, .bool false, .bool false, .pointer (some ⟨b4, 0, none⟩), .int .i64 b1.Lo, .pointer (some ⟨b4, 1, none⟩), .int .i64 b1.Hi, .int .i64 (mn b1.Lo b1.Hi), .bool false, .bool false, .pointer (some ⟨b4, 0, none⟩), .int .i64 b1.Lo, .pointer (some ⟨b4, 1, none⟩), .int .i64 b1.Hi, .int .i64 (mx b1.Lo b1.Hi), .bool false, .bool false, .bool false, .pointer (some ⟨b4, 0, none⟩), .int .i64 b1.Lo, .pointer (some ⟨b4, 1, none⟩), .int .i64 b1.Hi, .bool false], []⟩) (by kernel_rfl) ?_
              refine wpList_nil ?_
              refine hK58 _ _ ?_
              refine wp_ret ?_
              refine hret _ _ ?_
              refine ends_still (v := Value.int .i64 0) (by kernel_rfl) (by kernel_rfl) ?_
              have HS69 := HS6.drop
              injection h with h
              subst h
              exact ⟨f, rfl, FM.le.refl _, HS69⟩
  · have c19 : ¬ (b1.Unknown = true) := c19
    refine seqRwI 5 (x := b1.Unknown) (v := false) (by kernel_rfl) (Bool.eq_false_iff.mpr c19) ?_
    refine seqRwI 6 (x := b1.Unknown) (v := false) (by kernel_rfl) (Bool.eq_false_iff.mpr c19) ?_
    refine seqS10 (a' := ⟨#[.agg #[.int .i64 b1.Lo, .int .i64 b1.Hi, .bool b1.Unknown], .pointer (some ⟨b4, 0, none⟩), .int .i64 0, .bool false, .pointer (some ⟨b4, 2, none⟩), .bool false, .bool false, undef, undef, undef, undef, undef, undef, undef, undef, .bool false, undef, undef, undef, undef, undef, undef, undef, undef, undef, undef, undef, undef, undef, undef, undef, undef, undef, undef, undef, undef, undef], []⟩) (by kernel_rfl) ?_
    refine wpList_nil ?_
    refine hK18 _ _ ?_
    refine condF (by kernel_rfl) ?_
    refine wp_seq_k (fun K42 hK43 => ?_)
    refine wp_region_lit ?_
    refine seqL1 (by kernel_rfl) ?_
    refine seqK rfl (does_run (run_load rfl Try.underlying42 rfl (by kernel_rfl : _ = Value.pointer (some ⟨b4, 0, none⟩)) (HS6.cell 0)) ?_)
    refine seqL1 (by kernel_rfl) ?_
    refine seqK rfl (does_run (run_load rfl Try.underlying42 rfl (by kernel_rfl : _ = Value.pointer (some ⟨b4, 1, none⟩)) (HS6.cell 1)) ?_)
    refine seqS3 (a' := ⟨#[.agg #[.int .i64 b1.Lo, .int .i64 b1.Hi, .bool b1.Unknown], .pointer (some ⟨b4, 0, none⟩), .int .i64 0, .bool false, .pointer (some ⟨b4, 2, none⟩), .bool false, .bool false, undef, undef, undef, undef, undef, undef, undef, undef, .bool false, undef, .pointer (some ⟨b4, 0, none⟩), .int .i64 b1.Lo, .pointer (some ⟨b4, 1, none⟩), .int .i64 b1.Hi, .int .i64 (mn b1.Lo b1.Hi), .bool (decide ((mn b1.Lo b1.Hi) < (-1152921504606846976))), .bool (decide ((mn b1.Lo b1.Hi) < (-1152921504606846976))), undef, undef, undef, undef, undef, undef, undef, undef, undef, undef, undef, undef, undef], []⟩) (by kernel_rfl) ?_
    have hq_ := ite_some h; clear h; rcases hq_ with ⟨c44, h⟩ | ⟨c44, h⟩
    · have c44 : (mn b1.Lo b1.Hi) < (-1152921504606846976) := c44
      refine seqRwI 22 (x := (decide ((mn b1.Lo b1.Hi) < (-1152921504606846976)))) (v := true) (by kernel_rfl) (decide_eq_true c44) ?_
      refine seqRwI 23 (x := (decide ((mn b1.Lo b1.Hi) < (-1152921504606846976)))) (v := true) (by kernel_rfl) (decide_eq_true c44) ?_
      refine seqS8 (a' := ⟨#[.agg #[.int .i64 b1.Lo, .int .i64 b1.Hi, .bool b1.Unknown], .pointer (some ⟨b4, 0, none⟩), .int .i64 0, .bool false, .pointer (some ⟨b4, 2, none⟩), .bool false, .bool false, undef, undef, undef, undef, undef, undef, undef, undef, .bool false, .bool true, .pointer (some ⟨b4, 0, none⟩), .int .i64 b1.Lo, .pointer (some ⟨b4, 1, none⟩), .int .i64 b1.Hi, .int .i64 (mn b1.Lo b1.Hi), .bool true, .bool true, undef, undef, undef, undef, undef, undef, .bool true, undef, undef, undef, undef, undef, undef], []⟩) (by kernel_rfl) ?_
      refine wpList_nil ?_
      refine hK43 _ _ ?_
      refine condT (by kernel_rfl) ?_
      refine wp_seq_k (fun K45 hK46 => ?_)
      refine wp_region_lit ?_
      refine seqS1 (a' := ⟨#[.agg #[.int .i64 b1.Lo, .int .i64 b1.Hi, .bool b1.Unknown], .pointer (some ⟨b4, 0, none⟩), .int .i64 4, .bool false, .pointer (some ⟨b4, 2, none⟩), .bool false, .bool false, undef, undef, undef, undef, undef, undef, undef, undef, .bool false, .bool true, .pointer (some ⟨b4, 0, none⟩), .int .i64 b1.Lo, .pointer (some ⟨b4, 1, none⟩), .int .i64 b1.Hi, .int .i64 (mn b1.Lo b1.Hi), .bool true, .bool true, undef, undef, undef, undef, undef, undef, .bool true, undef, undef, undef, undef, undef, undef], []⟩) (by kernel_rfl) ?_
      refine wpList_nil ?_
      refine hK46 _ _ ?_
      refine wp_ret ?_
      refine hr13 _ _ ?_
      refine hret _ _ ?_
      refine ends_still (v := Value.int .i64 4) (by kernel_rfl) (by kernel_rfl) ?_
      have HS66 := HS6.drop
      injection h with h
      subst h
      exact ⟨f, rfl, FM.le.refl _, HS66⟩
    · have c44 : ¬ ((mn b1.Lo b1.Hi) < (-1152921504606846976)) := c44
      refine seqRwI 22 (x := (decide ((mn b1.Lo b1.Hi) < (-1152921504606846976)))) (v := false) (by kernel_rfl) (decide_eq_false c44) ?_
      refine seqRwI 23 (x := (decide ((mn b1.Lo b1.Hi) < (-1152921504606846976)))) (v := false) (by kernel_rfl) (decide_eq_false c44) ?_
      refine seqL1 (by kernel_rfl) ?_
      refine seqG (by kernel_rfl) (does_run (run_load rfl Try.underlying42 rfl (by kernel_rfl : _ = Value.pointer (some ⟨b4, 0, none⟩)) (HS6.cell 0)) ?_)
      refine seqL1 (by kernel_rfl) ?_
      refine seqG (by kernel_rfl) (does_run (run_load rfl Try.underlying42 rfl (by kernel_rfl : _ = Value.pointer (some ⟨b4, 1, none⟩)) (HS6.cell 1)) ?_)
      refine seqS4 (a' := ⟨#[.agg #[.int .i64 b1.Lo, .int .i64 b1.Hi, .bool b1.Unknown], .pointer (some ⟨b4, 0, none⟩), .int .i64 0, .bool false, .pointer (some ⟨b4, 2, none⟩), .bool false, .bool false, undef, undef, undef, undef, undef, undef, undef, undef, .bool false, .bool (decide ((mx b1.Lo b1.Hi) > 1152921504606846976)), .pointer (some ⟨b4, 0, none⟩), .int .i64 b1.Lo, .pointer (some ⟨b4, 1, none⟩), .int .i64 b1.Hi, .int .i64 (mn b1.Lo b1.Hi), .bool false, .bool false, .pointer (some ⟨b4, 0, none⟩), .int .i64 b1.Lo, .pointer (some ⟨b4, 1, none⟩), .int .i64 b1.Hi, .int .i64 (mx b1.Lo b1.Hi), .bool (decide ((mx b1.Lo b1.Hi) > 1152921504606846976)), .bool (decide ((mx b1.Lo b1.Hi) > 1152921504606846976)), undef, undef, undef, undef, undef, undef], []⟩) (by kernel_rfl) ?_
      refine wpList_nil ?_
      refine hK43 _ _ ?_
      have hq_ := ite_some h; clear h; rcases hq_ with ⟨c48, h⟩ | ⟨c48, h⟩
      · have c48 : (mx b1.Lo b1.Hi) > 1152921504606846976 := c48
        refine wpRwI 16 (x := (decide ((mx b1.Lo b1.Hi) > 1152921504606846976))) (v := true) (by kernel_rfl) (decide_eq_true c48) ?_
        refine wpRwI 29 (x := (decide ((mx b1.Lo b1.Hi) > 1152921504606846976))) (v := true) (by kernel_rfl) (decide_eq_true c48) ?_
        refine wpRwI 30 (x := (decide ((mx b1.Lo b1.Hi) > 1152921504606846976))) (v := true) (by kernel_rfl) (decide_eq_true c48) ?_
        refine condT (by kernel_rfl) ?_
        refine wp_seq_k (fun K49 hK50 => ?_)
        refine wp_region_lit ?_
        refine seqS1 (a' := ⟨#[.agg #[.int .i64 b1.Lo, .int .i64 b1.Hi, .bool b1.Unknown], .pointer (some ⟨b4, 0, none⟩), .int .i64 4, .bool false, .pointer (some ⟨b4, 2, none⟩), .bool false, .bool false, undef, undef, undef, undef, undef, undef, undef, undef, .bool false, .bool true, .pointer (some ⟨b4, 0, none⟩), .int .i64 b1.Lo, .pointer (some ⟨b4, 1, none⟩), .int .i64 b1.Hi, .int .i64 (mn b1.Lo b1.Hi), .bool false, .bool false, .pointer (some ⟨b4, 0, none⟩), .int .i64 b1.Lo, .pointer (some ⟨b4, 1, none⟩), .int .i64 b1.Hi, .int .i64 (mx b1.Lo b1.Hi), .bool true, .bool true, undef, undef, undef, undef, undef, undef], []⟩) (by kernel_rfl) ?_
        refine wpList_nil ?_
        refine hK50 _ _ ?_
        refine wp_ret ?_
        refine hr13 _ _ ?_
        refine hret _ _ ?_
        refine ends_still (v := Value.int .i64 4) (by kernel_rfl) (by kernel_rfl) ?_
        have HS67 := HS6.drop
        injection h with h
        subst h
        exact ⟨f, rfl, FM.le.refl _, HS67⟩
      · have c48 : ¬ ((mx b1.Lo b1.Hi) > 1152921504606846976) := c48
        refine wpRwI 16 (x := (decide ((mx b1.Lo b1.Hi) > 1152921504606846976))) (v := false) (by kernel_rfl) (decide_eq_false c48) ?_
        refine wpRwI 29 (x := (decide ((mx b1.Lo b1.Hi) > 1152921504606846976))) (v := false) (by kernel_rfl) (decide_eq_false c48) ?_
        refine wpRwI 30 (x := (decide ((mx b1.Lo b1.Hi) > 1152921504606846976))) (v := false) (by kernel_rfl) (decide_eq_false c48) ?_
        refine condF (by kernel_rfl) ?_
        refine wp_seq_k (fun K51 hK52 => ?_)
        refine wp_region_lit ?_
        refine seqL1 (by kernel_rfl) ?_
        refine seqK rfl (does_run (run_load rfl Try.underlying42 rfl (by kernel_rfl : _ = Value.pointer (some ⟨b4, 0, none⟩)) (HS6.cell 0)) ?_)
        refine seqL1 (by kernel_rfl) ?_
        refine seqK rfl (does_run (run_load rfl Try.underlying42 rfl (by kernel_rfl : _ = Value.pointer (some ⟨b4, 1, none⟩)) (HS6.cell 1)) ?_)
        refine seqS2 (a' := ⟨#[.agg #[.int .i64 b1.Lo, .int .i64 b1.Hi, .bool b1.Unknown], .pointer (some ⟨b4, 0, none⟩), .int .i64 0, .bool false, .pointer (some ⟨b4, 2, none⟩), .bool false, .bool false, undef, undef, undef, undef, undef, undef, undef, undef, .bool false, .bool false, .pointer (some ⟨b4, 0, none⟩), .int .i64 b1.Lo, .pointer (some ⟨b4, 1, none⟩), .int .i64 b1.Hi, .int .i64 (mn b1.Lo b1.Hi), .bool false, .bool false, .pointer (some ⟨b4, 0, none⟩), .int .i64 b1.Lo, .pointer (some ⟨b4, 1, none⟩), .int .i64 b1.Hi, .int .i64 (mx b1.Lo b1.Hi), .bool false, .bool false, .bool (decide (b1.Lo > b1.Hi)), .pointer (some ⟨b4, 0, none⟩), .int .i64 b1.Lo, .pointer (some ⟨b4, 1, none⟩), .int .i64 b1.Hi, .bool (decide (b1.Lo > b1.Hi))], []⟩) (by kernel_rfl) ?_
        refine wpList_nil ?_
        refine hK52 _ _ ?_
        have hq_ := ite_some h; clear h; rcases hq_ with ⟨c54, h⟩ | ⟨c54, h⟩
        · have c54 : b1.Lo > b1.Hi := c54
          refine wpRwI 31 (x := (decide (b1.Lo > b1.Hi))) (v := true) (by kernel_rfl) (decide_eq_true c54) ?_
          refine wpRwI 36 (x := (decide (b1.Lo > b1.Hi))) (v := true) (by kernel_rfl) (decide_eq_true c54) ?_
          refine condT (by kernel_rfl) ?_
          refine wp_seq_k (fun K55 hK56 => ?_)
          refine wp_region_lit ?_
          refine seqS1 (a' := ⟨#[.agg #[.int .i64 b1.Lo, .int .i64 b1.Hi, .bool b1.Unknown], .pointer (some ⟨b4, 0, none⟩), .int .i64 11, .bool false, .pointer (some ⟨b4, 2, none⟩), .bool false, .bool false, undef, undef, undef, undef, undef, undef, undef, undef, .bool false, .bool false, .pointer (some ⟨b4, 0, none⟩), .int .i64 b1.Lo, .pointer (some ⟨b4, 1, none⟩), .int .i64 b1.Hi, .int .i64 (mn b1.Lo b1.Hi), .bool false, .bool false, .pointer (some ⟨b4, 0, none⟩), .int .i64 b1.Lo, .pointer (some ⟨b4, 1, none⟩), .int .i64 b1.Hi, .int .i64 (mx b1.Lo b1.Hi), .bool false, .bool false, .bool true, .pointer (some ⟨b4, 0, none⟩), .int .i64 b1.Lo, .pointer (some ⟨b4, 1, none⟩), .int .i64 b1.Hi, .bool true], []⟩) (by kernel_rfl) ?_
          refine wpList_nil ?_
          refine hK56 _ _ ?_
          refine wp_ret ?_
          refine hr13 _ _ ?_
          refine hret _ _ ?_
          refine ends_still (v := Value.int .i64 11) (by kernel_rfl) (by kernel_rfl) ?_
          have HS68 := HS6.drop
          injection h with h
          subst h
          exact ⟨f, rfl, FM.le.refl _, HS68⟩
        · have c54 : ¬ (b1.Lo > b1.Hi) := c54
          refine wpRwI 31 (x := (decide (b1.Lo > b1.Hi))) (v := false) (by kernel_rfl) (decide_eq_false c54) ?_
          refine wpRwI 36 (x := (decide (b1.Lo > b1.Hi))) (v := false) (by kernel_rfl) (decide_eq_false c54) ?_
          refine condF (by kernel_rfl) ?_
          refine wp_skip ?_
          refine hn12 _ _ ?_
          refine hK9 _ _ ?_
          refine wp_seq_k (fun K59 hK60 => ?_)
          refine wp_region_lit ?_
          refine seqS1 (a' := ⟨#[.agg #[.int .i64 b1.Lo, .int .i64 b1.Hi, .bool b1.Unknown], .pointer (some ⟨b4, 0, none⟩), .int .i64 0, .bool false, .pointer (some ⟨b4, 2, none⟩), .bool false, .bool false, undef, undef, undef, undef, undef, undef, undef, undef, .bool false, .bool false, .pointer (some ⟨b4, 0, none⟩), .int .i64 b1.Lo, .pointer (some ⟨b4, 1, none⟩), .int .i64 b1.Hi, .int .i64 (mn b1.Lo b1.Hi), .bool false, .bool false, .pointer (some ⟨b4, 0, none⟩), .int .i64 b1.Lo, .pointer (some ⟨b4, 1, none⟩), .int .i64 b1.Hi, .int .i64 (mx b1.Lo b1.Hi), .bool false, .bool false, .bool false, .pointer (some ⟨b4, 0, none⟩), .int .i64 b1.Lo, .pointer (some ⟨b4, 1, none⟩), .int .i64 b1.Hi, .bool false], []⟩) (by kernel_rfl) ?_
          refine wpList_nil ?_
          refine hK60 _ _ ?_
          refine wp_ret ?_
          refine hret _ _ ?_
          refine ends_still (v := Value.int .i64 0) (by kernel_rfl) (by kernel_rfl) ?_
          have HS70 := HS6.drop
          injection h with h
          subst h
          exact ⟨f, rfl, FM.le.refl _, HS70⟩

set_option maxRecDepth 100000 in
set_option maxHeartbeats 4000000 in
theorem bound_None_Quanta.calls (k : Nat)   {t w : World} {f : FM} {H : List Seg} (HS : St t w f (H)) (r1 : S_Bound) (h : bound_None_Quanta k = some r1) :
    Calls Try.prog 32 #[] w (fun e w' => ∃ (g : FM), e = .returned (Value.agg #[.int .i64 r1.Lo, .int .i64 r1.Hi, .bool r1.Unknown]) ∧ FM.le f g ∧ St t w' g (H)) := by
  unfold bound_None_Quanta at h
  refine enter Try.func32 rfl (tm := #[undef, undef]) (by kernel_rfl) ?_
  intro B hret hnor hnp
  refine wp_seq_k (fun K1 hK2 => ?_)
  refine wp_region_lit ?_
  refine seqK rfl (does_alloc (z := Value.agg #[.int .i64 0, .int .i64 0, .bool false]) (cs := #[.int .i64 0, .int .i64 0, .bool false]) rfl (by kernel_rfl) rfl HS ?_)
  intro b3 W4 HS5
  refine wpList_nil ?_
  refine hK2 _ _ ?_
  refine wp_seq_k (fun K7 hK8 => ?_)
  refine wp_region_lit ?_
  refine seqL1 (by kernel_rfl) ?_
  refine seqK rfl (does_store (n := 3) (vs := [.int .i64 0, .int .i64 0, .bool true]) (cs' := #[.int .i64 0, .int .i64 0, .bool true]) rfl (by kernel_rfl) (by kernel_rfl : _ = Value.pointer (some ⟨b3, 0, none⟩)) (by kernel_rfl : _ = Value.agg #[.int .i64 0, .int .i64 0, .bool true]) rfl rfl (by intro u_ hu_; simp only [List.mem_cons, List.not_mem_nil, or_false] at hu_; rcases hu_ with rfl | rfl | rfl <;> rfl) HS5 (Nat.le_of_ble_eq_true rfl) (by kernel_rfl) ?_)
  intro W9 HS10
  refine wpList_nil ?_
  refine hK8 _ _ ?_
  refine wp_ret ?_
  refine hret _ _ ?_
  refine ends (v := Value.agg #[.int .i64 0, .int .i64 0, .bool true]) (results1 (q1 := .cell 0 44) (by kernel_rfl) (resN (n := 3) (cs := [.int .i64 0, .int .i64 0, .bool true]) (by kernel_rfl : _ = Value.pointer (some ⟨b3, 0, none⟩)) Try.underlying44 rfl (by kernel_rfl) rfl (HS10.cells 0 3 _ rfl))) (by kernel_rfl) ?_
  have HS11 := HS10.drop
  injection h with h
  subst h
  exact ⟨f, rfl, FM.le.refl _, HS11⟩

set_option maxRecDepth 100000 in
set_option maxHeartbeats 4000000 in
theorem bound_Norm_Quanta.calls (k : Nat)  (b1 : S_Bound) {t w : World} {f : FM} {H : List Seg} (HS : St t w f (H)) (r1 : S_Bound) (h : bound_Norm_Quanta k b1 = some r1) :
    Calls Try.prog 45 #[.agg #[.int .i64 b1.Lo, .int .i64 b1.Hi, .bool b1.Unknown]] w (fun e w' => ∃ (g : FM), e = .returned (Value.agg #[.int .i64 r1.Lo, .int .i64 r1.Hi, .bool r1.Unknown]) ∧ FM.le f g ∧ St t w' g (H)) := by
  unfold bound_Norm_Quanta at h
  refine enter Try.func45 rfl (tm := #[.agg #[.int .i64 b1.Lo, .int .i64 b1.Hi, .bool b1.Unknown], undef, undef, undef, undef, undef, undef, undef]) (by kernel_rfl) ?_
  intro B hret hnor hnp
  refine wp_seq_k (fun K2 hK3 => ?_)
  refine wp_region_lit ?_
  refine seqK rfl (does_box (cs := #[.int .i64 b1.Lo, .int .i64 b1.Hi, .bool b1.Unknown]) rfl (by kernel_rfl : _ = Value.agg #[.int .i64 b1.Lo, .int .i64 b1.Hi, .bool b1.Unknown]) rfl HS ?_)
  intro b4 W5 HS6
  refine seqK rfl (does_alloc (z := Value.agg #[.int .i64 0, .int .i64 0, .bool false]) (cs := #[.int .i64 0, .int .i64 0, .bool false]) rfl (by kernel_rfl) rfl HS6 ?_)
  intro b8 W9 HS10
  refine wpList_nil ?_
  refine hK3 _ _ ?_
  refine wp_seq_k (fun K12 hK13 => ?_)
  refine wp_seq_k (fun K14 hK15 => ?_)
  refine wp_region_lit ?_
  refine seqK rfl (does_run (run_loadN (n := 3) rfl Try.underlying44 rfl (by kernel_rfl) (by kernel_rfl : _ = Value.pointer (some ⟨b4, 0, none⟩)) (cs := [.int .i64 b1.Lo, .int .i64 b1.Hi, .bool b1.Unknown]) rfl (HS10.u1.cells 0 3 _ rfl)) ?_)
  have hq_ := bind_some h; clear h; obtain ⟨vt16, hc17, h⟩ := hq_
  refine seqK rfl (does_call (f := 71) (args := #[.agg #[.int .i64 b1.Lo, .int .i64 b1.Hi, .bool b1.Unknown]]) (by kernel_rfl) (bound_Check_Quanta.calls k b1 HS10 vt16 hc17) ?_)
  rintro _ W20 ⟨f18, rfl, L19, HS21⟩
  refine ⟨_, rfl, ?_⟩
  refine seqS1 (a' := ⟨#[.agg #[.int .i64 b1.Lo, .int .i64 b1.Hi, .bool b1.Unknown], .pointer (some ⟨b4, 0, none⟩), .pointer (some ⟨b8, 0, none⟩), .agg #[.int .i64 b1.Lo, .int .i64 b1.Hi, .bool b1.Unknown], .int .i64 vt16, .bool (vt16 != 0), undef, undef], []⟩) (by kernel_rfl) ?_
  refine wpList_nil ?_
  refine hK15 _ _ ?_
  have hq_ := ite_some h; clear h; rcases hq_ with ⟨c23, h⟩ | ⟨c23, h⟩
  · have c23 : vt16 ≠ 0 := c23
    refine wpRwI 5 (x := (vt16 != 0)) (v := true) (by kernel_rfl) (bne_iff_ne.mpr c23) ?_
    refine condT (by kernel_rfl) ?_
    refine wp_seq_k (fun K24 hK25 => ?_)
    refine wp_region_lit ?_
    have hq_ := bind_some h; clear h; obtain ⟨vt26, hc27, h⟩ := hq_
    refine seqK rfl (does_call (f := 32) (args := #[]) (by kernel_rfl) (bound_None_Quanta.calls k  HS21 vt26 hc27) ?_)
    rintro _ W30 ⟨f28, rfl, L29, HS31⟩
    refine ⟨_, rfl, ?_⟩
    refine seqK rfl (does_store (n := 3) (vs := [.int .i64 vt26.Lo, .int .i64 vt26.Hi, .bool vt26.Unknown]) (cs' := #[.int .i64 vt26.Lo, .int .i64 vt26.Hi, .bool vt26.Unknown]) rfl (by kernel_rfl) (by kernel_rfl : _ = Value.pointer (some ⟨b8, 0, none⟩)) (by kernel_rfl : _ = Value.agg #[.int .i64 vt26.Lo, .int .i64 vt26.Hi, .bool vt26.Unknown]) rfl rfl (by intro u_ hu_; simp only [List.mem_cons, List.not_mem_nil, or_false] at hu_; rcases hu_ with rfl | rfl | rfl <;> rfl) HS31 (Nat.le_of_ble_eq_true rfl) (by kernel_rfl) ?_)
    intro W32 HS33
    refine wpList_nil ?_
    refine hK25 _ _ ?_
    refine wp_ret ?_
    refine hret _ _ ?_
    refine ends (v := Value.agg #[.int .i64 vt26.Lo, .int .i64 vt26.Hi, .bool vt26.Unknown]) (results1 (q1 := .cell 2 44) (by kernel_rfl) (resN (n := 3) (cs := [.int .i64 vt26.Lo, .int .i64 vt26.Hi, .bool vt26.Unknown]) (by kernel_rfl : _ = Value.pointer (some ⟨b8, 0, none⟩)) Try.underlying44 rfl (by kernel_rfl) rfl (HS33.cells 0 3 _ rfl))) (by kernel_rfl) ?_
    have HS38 := HS33.drop
    have HS39 := HS38.drop
    injection h with h
    subst h
    exact ⟨f28, rfl, (L19.trans L29), HS39⟩
  · have c23 : ¬ (vt16 ≠ 0) := c23
    refine wpRwI 5 (x := (vt16 != 0)) (v := false) (by kernel_rfl) (bne_eq_false_iff_eq.mpr (Decidable.of_not_not c23)) ?_
    refine condF (by kernel_rfl) ?_
    refine wp_skip ?_
    refine hK13 _ _ ?_
    refine wp_seq_k (fun K34 hK35 => ?_)
    refine wp_region_lit ?_
    refine seqK rfl (does_run (run_loadN (n := 3) rfl Try.underlying44 rfl (by kernel_rfl) (by kernel_rfl : _ = Value.pointer (some ⟨b4, 0, none⟩)) (cs := [.int .i64 b1.Lo, .int .i64 b1.Hi, .bool b1.Unknown]) rfl (HS21.u1.cells 0 3 _ rfl)) ?_)
    refine seqK rfl (does_store (n := 3) (vs := [.int .i64 b1.Lo, .int .i64 b1.Hi, .bool b1.Unknown]) (cs' := #[.int .i64 b1.Lo, .int .i64 b1.Hi, .bool b1.Unknown]) rfl (by kernel_rfl) (by kernel_rfl : _ = Value.pointer (some ⟨b8, 0, none⟩)) (by kernel_rfl : _ = Value.agg #[.int .i64 b1.Lo, .int .i64 b1.Hi, .bool b1.Unknown]) rfl rfl (by intro u_ hu_; simp only [List.mem_cons, List.not_mem_nil, or_false] at hu_; rcases hu_ with rfl | rfl | rfl <;> rfl) HS21 (Nat.le_of_ble_eq_true rfl) (by kernel_rfl) ?_)
    intro W36 HS37
    refine wpList_nil ?_
    refine hK35 _ _ ?_
    refine wp_ret ?_
    refine hret _ _ ?_
    refine ends (v := Value.agg #[.int .i64 b1.Lo, .int .i64 b1.Hi, .bool b1.Unknown]) (results1 (q1 := .cell 2 44) (by kernel_rfl) (resN (n := 3) (cs := [.int .i64 b1.Lo, .int .i64 b1.Hi, .bool b1.Unknown]) (by kernel_rfl : _ = Value.pointer (some ⟨b8, 0, none⟩)) Try.underlying44 rfl (by kernel_rfl) rfl (HS37.cells 0 3 _ rfl))) (by kernel_rfl) ?_
    have HS40 := HS37.drop
    have HS41 := HS40.drop
    injection h with h
    subst h
    exact ⟨f18, rfl, L19, HS41⟩

set_option maxRecDepth 100000 in
set_option maxHeartbeats 4000000 in
theorem bound_Of_Quanta.calls (k : Nat)  (lo1 : Int) (hi2 : Int) {t w : World} {f : FM} {H : List Seg} (HS : St t w f (H)) (r1 : S_Bound) (h : bound_Of_Quanta k lo1 hi2 = some r1) :
    Calls Try.prog 22 #[.int .i64 lo1, .int .i64 hi2] w (fun e w' => ∃ (g : FM), e = .returned (Value.agg #[.int .i64 r1.Lo, .int .i64 r1.Hi, .bool r1.Unknown]) ∧ FM.le f g ∧ St t w' g (H)) := by
  unfold bound_Of_Quanta at h
  refine enter Try.func22 rfl (tm := #[.int .i64 lo1, .int .i64 hi2, undef, undef, undef, undef, undef, undef, undef]) (by kernel_rfl) ?_
  intro B hret hnor hnp
  refine wp_seq_k (fun K3 hK4 => ?_)
  refine wp_region_lit ?_
  refine seqK rfl (does_alloc (z := Value.agg #[.int .i64 0, .int .i64 0, .bool false]) (cs := #[.int .i64 0, .int .i64 0, .bool false]) rfl (by kernel_rfl) rfl HS ?_)
  intro b5 W6 HS7
  refine wpList_nil ?_
  refine hK4 _ _ ?_
  refine wp_seq_k (fun K9 hK10 => ?_)
  refine wp_region_lit ?_
  have hq_ := bind_some h; clear h; obtain ⟨vt11, hc12, h⟩ := hq_
  refine seqL3 (by kernel_rfl) ?_
  refine seqK rfl (does_call (f := 45) (args := #[.agg #[.int .i64 lo1, .int .i64 hi2, .bool false]]) (by kernel_rfl) (bound_Norm_Quanta.calls k (⟨lo1, hi2, false⟩ : S_Bound) HS7 vt11 hc12) ?_)
  rintro _ W15 ⟨f13, rfl, L14, HS16⟩
  refine ⟨_, rfl, ?_⟩
  refine seqK rfl (does_store (n := 3) (vs := [.int .i64 vt11.Lo, .int .i64 vt11.Hi, .bool vt11.Unknown]) (cs' := #[.int .i64 vt11.Lo, .int .i64 vt11.Hi, .bool vt11.Unknown]) rfl (by kernel_rfl) (by kernel_rfl : _ = Value.pointer (some ⟨b5, 0, none⟩)) (by kernel_rfl : _ = Value.agg #[.int .i64 vt11.Lo, .int .i64 vt11.Hi, .bool vt11.Unknown]) rfl rfl (by intro u_ hu_; simp only [List.mem_cons, List.not_mem_nil, or_false] at hu_; rcases hu_ with rfl | rfl | rfl <;> rfl) HS16 (Nat.le_of_ble_eq_true rfl) (by kernel_rfl) ?_)
  intro W17 HS18
  refine wpList_nil ?_
  refine hK10 _ _ ?_
  refine wp_ret ?_
  refine hret _ _ ?_
  refine ends (v := Value.agg #[.int .i64 vt11.Lo, .int .i64 vt11.Hi, .bool vt11.Unknown]) (results1 (q1 := .cell 4 44) (by kernel_rfl) (resN (n := 3) (cs := [.int .i64 vt11.Lo, .int .i64 vt11.Hi, .bool vt11.Unknown]) (by kernel_rfl : _ = Value.pointer (some ⟨b5, 0, none⟩)) Try.underlying44 rfl (by kernel_rfl) rfl (HS18.cells 0 3 _ rfl))) (by kernel_rfl) ?_
  have HS19 := HS18.drop
  injection h with h
  subst h
  exact ⟨f13, rfl, L14, HS19⟩

set_option maxRecDepth 100000 in
set_option maxHeartbeats 4000000 in
theorem bound_Check_Light.calls (k : Nat)  (b1 : S_Bound) {t w : World} {f : FM} {H : List Seg} (HS : St t w f (H)) (r1 : Int) (h : bound_Check_Light k b1 = some r1) :
    Calls Try.prog 81 #[.agg #[.int .i64 b1.Lo, .int .i64 b1.Hi, .bool b1.Unknown]] w (fun e w' => ∃ (g : FM), e = .returned (Value.int .i64 r1) ∧ FM.le f g ∧ St t w' g (H)) := by
  unfold bound_Check_Light at h
  refine enter Try.func81 rfl (tm := #[.agg #[.int .i64 b1.Lo, .int .i64 b1.Hi, .bool b1.Unknown], undef, undef, undef, undef, undef, undef, undef, undef, undef, undef, undef, undef, undef, undef, undef, undef, undef, undef, undef, undef, undef, undef, undef, undef, undef, undef, undef, undef, undef, undef, undef, undef, undef, undef, undef, undef]) (by kernel_rfl) ?_
  intro B hret hnor hnp
  refine wp_seq_k (fun K2 hK3 => ?_)
  refine wp_region_lit ?_
  refine seqK rfl (does_box (cs := #[.int .i64 b1.Lo, .int .i64 b1.Hi, .bool b1.Unknown]) rfl (by kernel_rfl : _ = Value.agg #[.int .i64 b1.Lo, .int .i64 b1.Hi, .bool b1.Unknown]) rfl HS ?_)
  intro b4 W5 HS6
  refine seqS1 (a' := ⟨#[.agg #[.int .i64 b1.Lo, .int .i64 b1.Hi, .bool b1.Unknown], .pointer (some ⟨b4, 0, none⟩), .int .i64 0, undef, undef, undef, undef, undef, undef, undef, undef, undef, undef, undef, undef, undef, undef, undef, undef, undef, undef, undef, undef, undef, undef, undef, undef, undef, undef, undef, undef, undef, undef, undef, undef, undef, undef], []⟩) (by kernel_rfl) ?_
  refine wpList_nil ?_
  refine hK3 _ _ ?_
  refine wp_seq_k (fun K8 hK9 => ?_)
  refine blockK (fun B10 hx11 hn12 hr13 ho14 hp15 => ?_)
  refine wp_seq_k (fun K17 hK18 => ?_)
  refine wp_region_lit ?_
  refine seqL1 (by kernel_rfl) ?_
  refine seqK rfl (does_run (run_load rfl Try.underlying4 rfl (by kernel_rfl : _ = Value.pointer (some ⟨b4, 2, none⟩)) (HS6.cell 2)) ?_)
  refine seqS1 (a' := ⟨#[.agg #[.int .i64 b1.Lo, .int .i64 b1.Hi, .bool b1.Unknown], .pointer (some ⟨b4, 0, none⟩), .int .i64 0, undef, .pointer (some ⟨b4, 2, none⟩), .bool b1.Unknown, .bool b1.Unknown, undef, undef, undef, undef, undef, undef, undef, undef, undef, undef, undef, undef, undef, undef, undef, undef, undef, undef, undef, undef, undef, undef, undef, undef, undef, undef, undef, undef, undef, undef], []⟩) (by kernel_rfl) ?_
  have hq_ := ite_some h; clear h; rcases hq_ with ⟨c19, h⟩ | ⟨c19, h⟩
  · have c19 : b1.Unknown = true := c19
    refine seqRwI 5 (x := b1.Unknown) (v := true) (by kernel_rfl) c19 ?_
    refine seqRwI 6 (x := b1.Unknown) (v := true) (by kernel_rfl) c19 ?_
    refine seqL1 (by kernel_rfl) ?_
    refine seqG (by kernel_rfl) (does_run (run_load rfl Try.underlying52 rfl (by kernel_rfl : _ = Value.pointer (some ⟨b4, 0, none⟩)) (HS6.cell 0)) ?_)
    refine seqS2 (a' := ⟨#[.agg #[.int .i64 b1.Lo, .int .i64 b1.Hi, .bool b1.Unknown], .pointer (some ⟨b4, 0, none⟩), .int .i64 0, undef, .pointer (some ⟨b4, 2, none⟩), .bool true, .bool true, .pointer (some ⟨b4, 0, none⟩), .int .i64 b1.Lo, .bool (b1.Lo != 0), .bool (b1.Lo != 0), undef, undef, undef, undef, undef, undef, undef, undef, undef, undef, undef, undef, undef, undef, undef, undef, undef, undef, undef, undef, undef, undef, undef, undef, undef, undef], []⟩) (by kernel_rfl) ?_
    have hq_ := ite_some h; clear h; rcases hq_ with ⟨c20, h⟩ | ⟨c20, h⟩
    · have c20 : b1.Lo ≠ 0 := c20
      refine seqRwI 9 (x := (b1.Lo != 0)) (v := true) (by kernel_rfl) (bne_iff_ne.mpr c20) ?_
      refine seqRwI 10 (x := (b1.Lo != 0)) (v := true) (by kernel_rfl) (bne_iff_ne.mpr c20) ?_
      refine seqS6 (a' := ⟨#[.agg #[.int .i64 b1.Lo, .int .i64 b1.Hi, .bool b1.Unknown], .pointer (some ⟨b4, 0, none⟩), .int .i64 0, .bool true, .pointer (some ⟨b4, 2, none⟩), .bool true, .bool true, .pointer (some ⟨b4, 0, none⟩), .int .i64 b1.Lo, .bool true, .bool true, undef, undef, undef, .bool true, .bool true, undef, undef, undef, undef, undef, undef, undef, undef, undef, undef, undef, undef, undef, undef, undef, undef, undef, undef, undef, undef, undef], []⟩) (by kernel_rfl) ?_
      refine wpList_nil ?_
      refine hK18 _ _ ?_
      refine condT (by kernel_rfl) ?_
      refine wp_seq_k (fun K21 hK22 => ?_)
      refine wp_region_lit ?_
      refine seqS1 (a' := ⟨#[.agg #[.int .i64 b1.Lo, .int .i64 b1.Hi, .bool b1.Unknown], .pointer (some ⟨b4, 0, none⟩), .int .i64 3, .bool true, .pointer (some ⟨b4, 2, none⟩), .bool true, .bool true, .pointer (some ⟨b4, 0, none⟩), .int .i64 b1.Lo, .bool true, .bool true, undef, undef, undef, .bool true, .bool true, undef, undef, undef, undef, undef, undef, undef, undef, undef, undef, undef, undef, undef, undef, undef, undef, undef, undef, undef, undef, undef], []⟩) (by kernel_rfl) ?_
      refine wpList_nil ?_
      refine hK22 _ _ ?_
      refine wp_ret ?_
      refine hr13 _ _ ?_
      refine hret _ _ ?_
      refine ends_still (v := Value.int .i64 3) (by kernel_rfl) (by kernel_rfl) ?_
      have HS61 := HS6.drop
      injection h with h
      subst h
      exact ⟨f, rfl, FM.le.refl _, HS61⟩
    · have c20 : ¬ (b1.Lo ≠ 0) := c20
      refine seqRwI 9 (x := (b1.Lo != 0)) (v := false) (by kernel_rfl) (bne_eq_false_iff_eq.mpr (Decidable.of_not_not c20)) ?_
      refine seqRwI 10 (x := (b1.Lo != 0)) (v := false) (by kernel_rfl) (bne_eq_false_iff_eq.mpr (Decidable.of_not_not c20)) ?_
      refine seqL1 (by kernel_rfl) ?_
      refine seqG (by kernel_rfl) (does_run (run_load rfl Try.underlying52 rfl (by kernel_rfl : _ = Value.pointer (some ⟨b4, 1, none⟩)) (HS6.cell 1)) ?_)
      refine seqS4 (a' := ⟨#[.agg #[.int .i64 b1.Lo, .int .i64 b1.Hi, .bool b1.Unknown], .pointer (some ⟨b4, 0, none⟩), .int .i64 0, .bool (b1.Hi != 0), .pointer (some ⟨b4, 2, none⟩), .bool true, .bool true, .pointer (some ⟨b4, 0, none⟩), .int .i64 b1.Lo, .bool false, .bool false, .pointer (some ⟨b4, 1, none⟩), .int .i64 b1.Hi, .bool (b1.Hi != 0), .bool (b1.Hi != 0), .bool (b1.Hi != 0), undef, undef, undef, undef, undef, undef, undef, undef, undef, undef, undef, undef, undef, undef, undef, undef, undef, undef, undef, undef, undef], []⟩) (by kernel_rfl) ?_
      refine wpList_nil ?_
      refine hK18 _ _ ?_
      have hq_ := ite_some h; clear h; rcases hq_ with ⟨c24, h⟩ | ⟨c24, h⟩
      · have c24 : b1.Hi ≠ 0 := c24
        refine wpRwI 3 (x := (b1.Hi != 0)) (v := true) (by kernel_rfl) (bne_iff_ne.mpr c24) ?_
        refine wpRwI 13 (x := (b1.Hi != 0)) (v := true) (by kernel_rfl) (bne_iff_ne.mpr c24) ?_
        refine wpRwI 14 (x := (b1.Hi != 0)) (v := true) (by kernel_rfl) (bne_iff_ne.mpr c24) ?_
        refine wpRwI 15 (x := (b1.Hi != 0)) (v := true) (by kernel_rfl) (bne_iff_ne.mpr c24) ?_
        refine condT (by kernel_rfl) ?_
        refine wp_seq_k (fun K25 hK26 => ?_)
        refine wp_region_lit ?_
        refine seqS1 (a' := ⟨#[.agg #[.int .i64 b1.Lo, .int .i64 b1.Hi, .bool b1.Unknown], .pointer (some ⟨b4, 0, none⟩), .int .i64 3, .bool true, .pointer (some ⟨b4, 2, none⟩), .bool true, .bool true, .pointer (some ⟨b4, 0, none⟩), .int .i64 b1.Lo, .bool false, .bool false, .pointer (some ⟨b4, 1, none⟩), .int .i64 b1.Hi, .bool true, .bool true, .bool true, undef, undef, undef, undef, undef, undef, undef, undef, undef, undef, undef, undef, undef, undef, undef, undef, undef, undef, undef, undef, undef], []⟩) (by kernel_rfl) ?_
        refine wpList_nil ?_
        refine hK26 _ _ ?_
        refine wp_ret ?_
        refine hr13 _ _ ?_
        refine hret _ _ ?_
        refine ends_still (v := Value.int .i64 3) (by kernel_rfl) (by kernel_rfl) ?_
        have HS62 := HS6.drop
        injection h with h
        subst h
        exact ⟨f, rfl, FM.le.refl _, HS62⟩
      · have c24 : ¬ (b1.Hi ≠ 0) := c24
        refine wpRwI 3 (x := (b1.Hi != 0)) (v := false) (by kernel_rfl) (bne_eq_false_iff_eq.mpr (Decidable.of_not_not c24)) ?_
        refine wpRwI 13 (x := (b1.Hi != 0)) (v := false) (by kernel_rfl) (bne_eq_false_iff_eq.mpr (Decidable.of_not_not c24)) ?_
        refine wpRwI 14 (x := (b1.Hi != 0)) (v := false) (by kernel_rfl) (bne_eq_false_iff_eq.mpr (Decidable.of_not_not c24)) ?_
        refine wpRwI 15 (x := (b1.Hi != 0)) (v := false) (by kernel_rfl) (bne_eq_false_iff_eq.mpr (Decidable.of_not_not c24)) ?_
        refine condF (by kernel_rfl) ?_
        refine wp_seq_k (fun K27 hK28 => ?_)
        refine wp_region_lit ?_
        refine seqL1 (by kernel_rfl) ?_
        refine seqK rfl (does_run (run_load rfl Try.underlying52 rfl (by kernel_rfl : _ = Value.pointer (some ⟨b4, 0, none⟩)) (HS6.cell 0)) ?_)
        refine seqL1 (by kernel_rfl) ?_
        refine seqK rfl (does_run (run_load rfl Try.underlying52 rfl (by kernel_rfl : _ = Value.pointer (some ⟨b4, 1, none⟩)) (HS6.cell 1)) ?_)
        refine seqS3 (a' := ⟨#[.agg #[.int .i64 b1.Lo, .int .i64 b1.Hi, .bool b1.Unknown], .pointer (some ⟨b4, 0, none⟩), .int .i64 0, .bool false, .pointer (some ⟨b4, 2, none⟩), .bool true, .bool true, .pointer (some ⟨b4, 0, none⟩), .int .i64 b1.Lo, .bool false, .bool false, .pointer (some ⟨b4, 1, none⟩), .int .i64 b1.Hi, .bool false, .bool false, .bool false, undef, .pointer (some ⟨b4, 0, none⟩), .int .i64 b1.Lo, .pointer (some ⟨b4, 1, none⟩), .int .i64 b1.Hi, .int .i64 (mn b1.Lo b1.Hi), .bool (decide ((mn b1.Lo b1.Hi) < (-1152921504606846976))), .bool (decide ((mn b1.Lo b1.Hi) < (-1152921504606846976))), undef, undef, undef, undef, undef, undef, undef, undef, undef, undef, undef, undef, undef], []⟩) (by kernel_rfl) ?_
        have hq_ := ite_some h; clear h; rcases hq_ with ⟨c29, h⟩ | ⟨c29, h⟩
        · have c29 : (mn b1.Lo b1.Hi) < (-1152921504606846976) := c29
          refine seqRwI 22 (x := (decide ((mn b1.Lo b1.Hi) < (-1152921504606846976)))) (v := true) (by kernel_rfl) (decide_eq_true c29) ?_
          refine seqRwI 23 (x := (decide ((mn b1.Lo b1.Hi) < (-1152921504606846976)))) (v := true) (by kernel_rfl) (decide_eq_true c29) ?_
          refine seqS8 (a' := ⟨#[.agg #[.int .i64 b1.Lo, .int .i64 b1.Hi, .bool b1.Unknown], .pointer (some ⟨b4, 0, none⟩), .int .i64 0, .bool false, .pointer (some ⟨b4, 2, none⟩), .bool true, .bool true, .pointer (some ⟨b4, 0, none⟩), .int .i64 b1.Lo, .bool false, .bool false, .pointer (some ⟨b4, 1, none⟩), .int .i64 b1.Hi, .bool false, .bool false, .bool false, .bool true, .pointer (some ⟨b4, 0, none⟩), .int .i64 b1.Lo, .pointer (some ⟨b4, 1, none⟩), .int .i64 b1.Hi, .int .i64 (mn b1.Lo b1.Hi), .bool true, .bool true, undef, undef, undef, undef, undef, undef, .bool true, undef, undef, undef, undef, undef, undef], []⟩) (by kernel_rfl) ?_
          refine wpList_nil ?_
          refine hK28 _ _ ?_
          refine condT (by kernel_rfl) ?_
          refine wp_seq_k (fun K30 hK31 => ?_)
          refine wp_region_lit ?_
          refine seqS1 (a' := ⟨#[.agg #[.int .i64 b1.Lo, .int .i64 b1.Hi, .bool b1.Unknown], .pointer (some ⟨b4, 0, none⟩), .int .i64 4, .bool false, .pointer (some ⟨b4, 2, none⟩), .bool true, .bool true, .pointer (some ⟨b4, 0, none⟩), .int .i64 b1.Lo, .bool false, .bool false, .pointer (some ⟨b4, 1, none⟩), .int .i64 b1.Hi, .bool false, .bool false, .bool false, .bool true, .pointer (some ⟨b4, 0, none⟩), .int .i64 b1.Lo, .pointer (some ⟨b4, 1, none⟩), .int .i64 b1.Hi, .int .i64 (mn b1.Lo b1.Hi), .bool true, .bool true, undef, undef, undef, undef, undef, undef, .bool true, undef, undef, undef, undef, undef, undef], []⟩) (by kernel_rfl) ?_
          refine wpList_nil ?_
          refine hK31 _ _ ?_
          refine wp_ret ?_
          refine hr13 _ _ ?_
          refine hret _ _ ?_
          refine ends_still (v := Value.int .i64 4) (by kernel_rfl) (by kernel_rfl) ?_
          have HS63 := HS6.drop
          injection h with h
          subst h
          exact ⟨f, rfl, FM.le.refl _, HS63⟩
        · have c29 : ¬ ((mn b1.Lo b1.Hi) < (-1152921504606846976)) := c29
          refine seqRwI 22 (x := (decide ((mn b1.Lo b1.Hi) < (-1152921504606846976)))) (v := false) (by kernel_rfl) (decide_eq_false c29) ?_
          refine seqRwI 23 (x := (decide ((mn b1.Lo b1.Hi) < (-1152921504606846976)))) (v := false) (by kernel_rfl) (decide_eq_false c29) ?_
          refine seqL1 (by kernel_rfl) ?_
          refine seqG (by kernel_rfl) (does_run (run_load rfl Try.underlying52 rfl (by kernel_rfl : _ = Value.pointer (some ⟨b4, 0, none⟩)) (HS6.cell 0)) ?_)
          refine seqL1 (by kernel_rfl) ?_
          refine seqG (by kernel_rfl) (does_run (run_load rfl Try.underlying52 rfl (by kernel_rfl : _ = Value.pointer (some ⟨b4, 1, none⟩)) (HS6.cell 1)) ?_)
          refine seqS4 (a' := ⟨#[.agg #[.int .i64 b1.Lo, .int .i64 b1.Hi, .bool b1.Unknown], .pointer (some ⟨b4, 0, none⟩), .int .i64 0, .bool false, .pointer (some ⟨b4, 2, none⟩), .bool true, .bool true, .pointer (some ⟨b4, 0, none⟩), .int .i64 b1.Lo, .bool false, .bool false, .pointer (some ⟨b4, 1, none⟩), .int .i64 b1.Hi, .bool false, .bool false, .bool false, .bool (decide ((mx b1.Lo b1.Hi) > 1152921504606846976)), .pointer (some ⟨b4, 0, none⟩), .int .i64 b1.Lo, .pointer (some ⟨b4, 1, none⟩), .int .i64 b1.Hi, .int .i64 (mn b1.Lo b1.Hi), .bool false, .bool false, .pointer (some ⟨b4, 0, none⟩), .int .i64 b1.Lo, .pointer (some ⟨b4, 1, none⟩), .int .i64 b1.Hi, .int .i64 (mx b1.Lo b1.Hi), .bool (decide ((mx b1.Lo b1.Hi) > 1152921504606846976)), .bool (decide ((mx b1.Lo b1.Hi) > 1152921504606846976)), undef, undef, undef, undef, undef, undef], []⟩) (by kernel_rfl) ?_
          refine wpList_nil ?_
          refine hK28 _ _ ?_
          have hq_ := ite_some h; clear h; rcases hq_ with ⟨c33, h⟩ | ⟨c33, h⟩
          · have c33 : (mx b1.Lo b1.Hi) > 1152921504606846976 := c33
            refine wpRwI 16 (x := (decide ((mx b1.Lo b1.Hi) > 1152921504606846976))) (v := true) (by kernel_rfl) (decide_eq_true c33) ?_
            refine wpRwI 29 (x := (decide ((mx b1.Lo b1.Hi) > 1152921504606846976))) (v := true) (by kernel_rfl) (decide_eq_true c33) ?_
            refine wpRwI 30 (x := (decide ((mx b1.Lo b1.Hi) > 1152921504606846976))) (v := true) (by kernel_rfl) (decide_eq_true c33) ?_
            refine condT (by kernel_rfl) ?_
            refine wp_seq_k (fun K34 hK35 => ?_)
            refine wp_region_lit ?_
            refine seqS1 (a' := ⟨#[.agg #[.int .i64 b1.Lo, .int .i64 b1.Hi, .bool b1.Unknown], .pointer (some ⟨b4, 0, none⟩), .int .i64 4, .bool false, .pointer (some ⟨b4, 2, none⟩), .bool true, .bool true, .pointer (some ⟨b4, 0, none⟩), .int .i64 b1.Lo, .bool false, .bool false, .pointer (some ⟨b4, 1, none⟩), .int .i64 b1.Hi, .bool false, .bool false, .bool false, .bool true, .pointer (some ⟨b4, 0, none⟩), .int .i64 b1.Lo, .pointer (some ⟨b4, 1, none⟩), .int .i64 b1.Hi, .int .i64 (mn b1.Lo b1.Hi), .bool false, .bool false, .pointer (some ⟨b4, 0, none⟩), .int .i64 b1.Lo, .pointer (some ⟨b4, 1, none⟩), .int .i64 b1.Hi, .int .i64 (mx b1.Lo b1.Hi), .bool true, .bool true, undef, undef, undef, undef, undef, undef], []⟩) (by kernel_rfl) ?_
            refine wpList_nil ?_
            refine hK35 _ _ ?_
            refine wp_ret ?_
            refine hr13 _ _ ?_
            refine hret _ _ ?_
            refine ends_still (v := Value.int .i64 4) (by kernel_rfl) (by kernel_rfl) ?_
            have HS64 := HS6.drop
            injection h with h
            subst h
            exact ⟨f, rfl, FM.le.refl _, HS64⟩
          · have c33 : ¬ ((mx b1.Lo b1.Hi) > 1152921504606846976) := c33
            refine wpRwI 16 (x := (decide ((mx b1.Lo b1.Hi) > 1152921504606846976))) (v := false) (by kernel_rfl) (decide_eq_false c33) ?_
            refine wpRwI 29 (x := (decide ((mx b1.Lo b1.Hi) > 1152921504606846976))) (v := false) (by kernel_rfl) (decide_eq_false c33) ?_
            refine wpRwI 30 (x := (decide ((mx b1.Lo b1.Hi) > 1152921504606846976))) (v := false) (by kernel_rfl) (decide_eq_false c33) ?_
            refine condF (by kernel_rfl) ?_
            refine wp_seq_k (fun K36 hK37 => ?_)
            refine wp_region_lit ?_
            refine seqL1 (by kernel_rfl) ?_
            refine seqK rfl (does_run (run_load rfl Try.underlying52 rfl (by kernel_rfl : _ = Value.pointer (some ⟨b4, 0, none⟩)) (HS6.cell 0)) ?_)
            refine seqL1 (by kernel_rfl) ?_
            refine seqK rfl (does_run (run_load rfl Try.underlying52 rfl (by kernel_rfl : _ = Value.pointer (some ⟨b4, 1, none⟩)) (HS6.cell 1)) ?_)
            refine seqS2 (a' := ⟨#[.agg #[.int .i64 b1.Lo, .int .i64 b1.Hi, .bool b1.Unknown], .pointer (some ⟨b4, 0, none⟩), .int .i64 0, .bool false, .pointer (some ⟨b4, 2, none⟩), .bool true, .bool true, .pointer (some ⟨b4, 0, none⟩), .int .i64 b1.Lo, .bool false, .bool false, .pointer (some ⟨b4, 1, none⟩), .int .i64 b1.Hi, .bool false, .bool false, .bool false, .bool false, .pointer (some ⟨b4, 0, none⟩), .int .i64 b1.Lo, .pointer (some ⟨b4, 1, none⟩), .int .i64 b1.Hi, .int .i64 (mn b1.Lo b1.Hi), .bool false, .bool false, .pointer (some ⟨b4, 0, none⟩), .int .i64 b1.Lo, .pointer (some ⟨b4, 1, none⟩), .int .i64 b1.Hi, .int .i64 (mx b1.Lo b1.Hi), .bool false, .bool false, .bool (decide (b1.Lo > b1.Hi)), .pointer (some ⟨b4, 0, none⟩), .int .i64 b1.Lo, .pointer (some ⟨b4, 1, none⟩), .int .i64 b1.Hi, .bool (decide (b1.Lo > b1.Hi))], []⟩) (by kernel_rfl) ?_
            refine wpList_nil ?_
            refine hK37 _ _ ?_
            have hq_ := ite_some h; clear h; rcases hq_ with ⟨c39, h⟩ | ⟨c39, h⟩
            · have c39 : b1.Lo > b1.Hi := c39
              refine wpRwI 31 (x := (decide (b1.Lo > b1.Hi))) (v := true) (by kernel_rfl) (decide_eq_true c39) ?_
              refine wpRwI 36 (x := (decide (b1.Lo > b1.Hi))) (v := true) (by kernel_rfl) (decide_eq_true c39) ?_
              refine condT (by kernel_rfl) ?_
              refine wp_seq_k (fun K40 hK41 => ?_)
              refine wp_region_lit ?_
              refine seqS1 (a' := ⟨#[.agg #[.int .i64 b1.Lo, .int .i64 b1.Hi, .bool b1.Unknown], .pointer (some ⟨b4, 0, none⟩), .int .i64 11, .bool false, .pointer (some ⟨b4, 2, none⟩), .bool true, .bool true, .pointer (some ⟨b4, 0, none⟩), .int .i64 b1.Lo, .bool false, .bool false, .pointer (some ⟨b4, 1, none⟩), .int .i64 b1.Hi, .bool false, .bool false, .bool false, .bool false, .pointer (some ⟨b4, 0, none⟩), .int .i64 b1.Lo, .pointer (some ⟨b4, 1, none⟩), .int .i64 b1.Hi, .int .i64 (mn b1.Lo b1.Hi), .bool false, .bool false, .pointer (some ⟨b4, 0, none⟩), .int .i64 b1.Lo, .pointer (some ⟨b4, 1, none⟩), .int .i64 b1.Hi, .int .i64 (mx b1.Lo b1.Hi), .bool false, .bool false, .bool true, .pointer (some ⟨b4, 0, none⟩), .int .i64 b1.Lo, .pointer (some ⟨b4, 1, none⟩), .int .i64 b1.Hi, .bool true], []⟩) (by kernel_rfl) ?_
              refine wpList_nil ?_
              refine hK41 _ _ ?_
              refine wp_ret ?_
              refine hr13 _ _ ?_
              refine hret _ _ ?_
              refine ends_still (v := Value.int .i64 11) (by kernel_rfl) (by kernel_rfl) ?_
              have HS65 := HS6.drop
              injection h with h
              subst h
              exact ⟨f, rfl, FM.le.refl _, HS65⟩
            · have c39 : ¬ (b1.Lo > b1.Hi) := c39
              refine wpRwI 31 (x := (decide (b1.Lo > b1.Hi))) (v := false) (by kernel_rfl) (decide_eq_false c39) ?_
              refine wpRwI 36 (x := (decide (b1.Lo > b1.Hi))) (v := false) (by kernel_rfl) (decide_eq_false c39) ?_
              refine condF (by kernel_rfl) ?_
              refine wp_skip ?_
              refine hn12 _ _ ?_
              refine hK9 _ _ ?_
              refine wp_seq_k (fun K57 hK58 => ?_)
              refine wp_region_lit ?_
              refine seqS1 (a' := ⟨#[.agg #[.int .i64 b1.Lo, .int .i64 b1.Hi, .bool b1.Unknown], .pointer (some ⟨b4, 0, none⟩), .int .i64 0, .bool false, .pointer (some ⟨b4, 2, none⟩), .bool true, .bool true, .pointer (some ⟨b4, 0, none⟩), .int .i64 b1.Lo, .bool false, .bool false, .pointer (some ⟨b4, 1, none⟩), .int .i64 b1.Hi, .bool false, .bool false, .bool false, .bool false, .pointer (some ⟨b4, 0, none⟩), .int .i64 b1.Lo, .pointer (some ⟨b4, 1, none⟩), .int .i64 b1.Hi, .int .i64 (mn b1.Lo b1.Hi), .bool false, .bool false, .pointer (some ⟨b4, 0, none⟩), .int .i64 b1.Lo, .pointer (some ⟨b4, 1, none⟩), .int .i64 b1.Hi, .int .i64 (mx b1.Lo b1.Hi), .bool false, .bool false, .bool false, .pointer (some ⟨b4, 0, none⟩), .int .i64 b1.Lo, .pointer (some ⟨b4, 1, none⟩), .int .i64 b1.Hi, .bool false], []⟩) (by kernel_rfl) ?_
              refine wpList_nil ?_
              refine hK58 _ _ ?_
              refine wp_ret ?_
              refine hret _ _ ?_
              refine ends_still (v := Value.int .i64 0) (by kernel_rfl) (by kernel_rfl) ?_
              have HS69 := HS6.drop
              injection h with h
              subst h
              exact ⟨f, rfl, FM.le.refl _, HS69⟩
  · have c19 : ¬ (b1.Unknown = true) := c19
    refine seqRwI 5 (x := b1.Unknown) (v := false) (by kernel_rfl) (Bool.eq_false_iff.mpr c19) ?_
    refine seqRwI 6 (x := b1.Unknown) (v := false) (by kernel_rfl) (Bool.eq_false_iff.mpr c19) ?_
    refine seqS10 (a' := ⟨#[.agg #[.int .i64 b1.Lo, .int .i64 b1.Hi, .bool b1.Unknown], .pointer (some ⟨b4, 0, none⟩), .int .i64 0, .bool false, .pointer (some ⟨b4, 2, none⟩), .bool false, .bool false, undef, undef, undef, undef, undef, undef, undef, undef, .bool false, undef, undef, undef, undef, undef, undef, undef, undef, undef, undef, undef, undef, undef, undef, undef, undef, undef, undef, undef, undef, undef], []⟩) (by kernel_rfl) ?_
    refine wpList_nil ?_
    refine hK18 _ _ ?_
    refine condF (by kernel_rfl) ?_
    refine wp_seq_k (fun K42 hK43 => ?_)
    refine wp_region_lit ?_
    refine seqL1 (by kernel_rfl) ?_
    refine seqK rfl (does_run (run_load rfl Try.underlying52 rfl (by kernel_rfl : _ = Value.pointer (some ⟨b4, 0, none⟩)) (HS6.cell 0)) ?_)
    refine seqL1 (by kernel_rfl) ?_
    refine seqK rfl (does_run (run_load rfl Try.underlying52 rfl (by kernel_rfl : _ = Value.pointer (some ⟨b4, 1, none⟩)) (HS6.cell 1)) ?_)
    refine seqS3 (a' := ⟨#[.agg #[.int .i64 b1.Lo, .int .i64 b1.Hi, .bool b1.Unknown], .pointer (some ⟨b4, 0, none⟩), .int .i64 0, .bool false, .pointer (some ⟨b4, 2, none⟩), .bool false, .bool false, undef, undef, undef, undef, undef, undef, undef, undef, .bool false, undef, .pointer (some ⟨b4, 0, none⟩), .int .i64 b1.Lo, .pointer (some ⟨b4, 1, none⟩), .int .i64 b1.Hi, .int .i64 (mn b1.Lo b1.Hi), .bool (decide ((mn b1.Lo b1.Hi) < (-1152921504606846976))), .bool (decide ((mn b1.Lo b1.Hi) < (-1152921504606846976))), undef, undef, undef, undef, undef, undef, undef, undef, undef, undef, undef, undef, undef], []⟩) (by kernel_rfl) ?_
    have hq_ := ite_some h; clear h; rcases hq_ with ⟨c44, h⟩ | ⟨c44, h⟩
    · have c44 : (mn b1.Lo b1.Hi) < (-1152921504606846976) := c44
      refine seqRwI 22 (x := (decide ((mn b1.Lo b1.Hi) < (-1152921504606846976)))) (v := true) (by kernel_rfl) (decide_eq_true c44) ?_
      refine seqRwI 23 (x := (decide ((mn b1.Lo b1.Hi) < (-1152921504606846976)))) (v := true) (by kernel_rfl) (decide_eq_true c44) ?_
      refine seqS8 (a' := ⟨#[.agg #[.int .i64 b1.Lo, .int .i64 b1.Hi, .bool b1.Unknown], .pointer (some ⟨b4, 0, none⟩), .int .i64 0, .bool false, .pointer (some ⟨b4, 2, none⟩), .bool false, .bool false, undef, undef, undef, undef, undef, undef, undef, undef, .bool false, .bool true, .pointer (some ⟨b4, 0, none⟩), .int .i64 b1.Lo, .pointer (some ⟨b4, 1, none⟩), .int .i64 b1.Hi, .int .i64 (mn b1.Lo b1.Hi), .bool true, .bool true, undef, undef, undef, undef, undef, undef, .bool true, undef, undef, undef, undef, undef, undef], []⟩) (by kernel_rfl) ?_
      refine wpList_nil ?_
      refine hK43 _ _ ?_
      refine condT (by kernel_rfl) ?_
      refine wp_seq_k (fun K45 hK46 => ?_)
      refine wp_region_lit ?_
      refine seqS1 (a' := ⟨#[.agg #[.int .i64 b1.Lo, .int .i64 b1.Hi, .bool b1.Unknown], .pointer (some ⟨b4, 0, none⟩), .int .i64 4, .bool false, .pointer (some ⟨b4, 2, none⟩), .bool false, .bool false, undef, undef, undef, undef, undef, undef, undef, undef, .bool false, .bool true, .pointer (some ⟨b4, 0, none⟩), .int .i64 b1.Lo, .pointer (some ⟨b4, 1, none⟩), .int .i64 b1.Hi, .int .i64 (mn b1.Lo b1.Hi), .bool true, .bool true, undef, undef, undef, undef, undef, undef, .bool true, undef, undef, undef, undef, undef, undef], []⟩) (by kernel_rfl) ?_
      refine wpList_nil ?_
      refine hK46 _ _ ?_
      refine wp_ret ?_
      refine hr13 _ _ ?_
      refine hret _ _ ?_
      refine ends_still (v := Value.int .i64 4) (by kernel_rfl) (by kernel_rfl) ?_
      have HS66 := HS6.drop
      injection h with h
      subst h
      exact ⟨f, rfl, FM.le.refl _, HS66⟩
    · have c44 : ¬ ((mn b1.Lo b1.Hi) < (-1152921504606846976)) := c44
      refine seqRwI 22 (x := (decide ((mn b1.Lo b1.Hi) < (-1152921504606846976)))) (v := false) (by kernel_rfl) (decide_eq_false c44) ?_
      refine seqRwI 23 (x := (decide ((mn b1.Lo b1.Hi) < (-1152921504606846976)))) (v := false) (by kernel_rfl) (decide_eq_false c44) ?_
      refine seqL1 (by kernel_rfl) ?_
      refine seqG (by kernel_rfl) (does_run (run_load rfl Try.underlying52 rfl (by kernel_rfl : _ = Value.pointer (some ⟨b4, 0, none⟩)) (HS6.cell 0)) ?_)
      refine seqL1 (by kernel_rfl) ?_
      refine seqG (by kernel_rfl) (does_run (run_load rfl Try.underlying52 rfl (by kernel_rfl : _ = Value.pointer (some ⟨b4, 1, none⟩)) (HS6.cell 1)) ?_)
      refine seqS4 (a' := ⟨#[.agg #[.int .i64 b1.Lo, .int .i64 b1.Hi, .bool b1.Unknown], .pointer (some ⟨b4, 0, none⟩), .int .i64 0, .bool false, .pointer (some ⟨b4, 2, none⟩), .bool false, .bool false, undef, undef, undef, undef, undef, undef, undef, undef, .bool false, .bool (decide ((mx b1.Lo b1.Hi) > 1152921504606846976)), .pointer (some ⟨b4, 0, none⟩), .int .i64 b1.Lo, .pointer (some ⟨b4, 1, none⟩), .int .i64 b1.Hi, .int .i64 (mn b1.Lo b1.Hi), .bool false, .bool false, .pointer (some ⟨b4, 0, none⟩), .int .i64 b1.Lo, .pointer (some ⟨b4, 1, none⟩), .int .i64 b1.Hi, .int .i64 (mx b1.Lo b1.Hi), .bool (decide ((mx b1.Lo b1.Hi) > 1152921504606846976)), .bool (decide ((mx b1.Lo b1.Hi) > 1152921504606846976)), undef, undef, undef, undef, undef, undef], []⟩) (by kernel_rfl) ?_
      refine wpList_nil ?_
      refine hK43 _ _ ?_
      have hq_ := ite_some h; clear h; rcases hq_ with ⟨c48, h⟩ | ⟨c48, h⟩
      · have c48 : (mx b1.Lo b1.Hi) > 1152921504606846976 := c48
        refine wpRwI 16 (x := (decide ((mx b1.Lo b1.Hi) > 1152921504606846976))) (v := true) (by kernel_rfl) (decide_eq_true c48) ?_
        refine wpRwI 29 (x := (decide ((mx b1.Lo b1.Hi) > 1152921504606846976))) (v := true) (by kernel_rfl) (decide_eq_true c48) ?_
        refine wpRwI 30 (x := (decide ((mx b1.Lo b1.Hi) > 1152921504606846976))) (v := true) (by kernel_rfl) (decide_eq_true c48) ?_
        refine condT (by kernel_rfl) ?_
        refine wp_seq_k (fun K49 hK50 => ?_)
        refine wp_region_lit ?_
        refine seqS1 (a' := ⟨#[.agg #[.int .i64 b1.Lo, .int .i64 b1.Hi, .bool b1.Unknown], .pointer (some ⟨b4, 0, none⟩), .int .i64 4, .bool false, .pointer (some ⟨b4, 2, none⟩), .bool false, .bool false, undef, undef, undef, undef, undef, undef, undef, undef, .bool false, .bool true, .pointer (some ⟨b4, 0, none⟩), .int .i64 b1.Lo, .pointer (some ⟨b4, 1, none⟩), .int .i64 b1.Hi, .int .i64 (mn b1.Lo b1.Hi), .bool false, .bool false, .pointer (some ⟨b4, 0, none⟩), .int .i64 b1.Lo, .pointer (some ⟨b4, 1, none⟩), .int .i64 b1.Hi, .int .i64 (mx b1.Lo b1.Hi), .bool true, .bool true, undef, undef, undef, undef, undef, undef], []⟩) (by kernel_rfl) ?_
        refine wpList_nil ?_
        refine hK50 _ _ ?_
        refine wp_ret ?_
        refine hr13 _ _ ?_
        refine hret _ _ ?_
        refine ends_still (v := Value.int .i64 4) (by kernel_rfl) (by kernel_rfl) ?_
        have HS67 := HS6.drop
        injection h with h
        subst h
        exact ⟨f, rfl, FM.le.refl _, HS67⟩
      · have c48 : ¬ ((mx b1.Lo b1.Hi) > 1152921504606846976) := c48
        refine wpRwI 16 (x := (decide ((mx b1.Lo b1.Hi) > 1152921504606846976))) (v := false) (by kernel_rfl) (decide_eq_false c48) ?_
        refine wpRwI 29 (x := (decide ((mx b1.Lo b1.Hi) > 1152921504606846976))) (v := false) (by kernel_rfl) (decide_eq_false c48) ?_
        refine wpRwI 30 (x := (decide ((mx b1.Lo b1.Hi) > 1152921504606846976))) (v := false) (by kernel_rfl) (decide_eq_false c48) ?_
        refine condF (by kernel_rfl) ?_
        refine wp_seq_k (fun K51 hK52 => ?_)
        refine wp_region_lit ?_
        refine seqL1 (by kernel_rfl) ?_
        refine seqK rfl (does_run (run_load rfl Try.underlying52 rfl (by kernel_rfl : _ = Value.pointer (some ⟨b4, 0, none⟩)) (HS6.cell 0)) ?_)
        refine seqL1 (by kernel_rfl) ?_
        refine seqK rfl (does_run (run_load rfl Try.underlying52 rfl (by kernel_rfl : _ = Value.pointer (some ⟨b4, 1, none⟩)) (HS6.cell 1)) ?_)
        refine seqS2 (a' := ⟨#[.agg #[.int .i64 b1.Lo, .int .i64 b1.Hi, .bool b1.Unknown], .pointer (some ⟨b4, 0, none⟩), .int .i64 0, .bool false, .pointer (some ⟨b4, 2, none⟩), .bool false, .bool false, undef, undef, undef, undef, undef, undef, undef, undef, .bool false, .bool false, .pointer (some ⟨b4, 0, none⟩), .int .i64 b1.Lo, .pointer (some ⟨b4, 1, none⟩), .int .i64 b1.Hi, .int .i64 (mn b1.Lo b1.Hi), .bool false, .bool false, .pointer (some ⟨b4, 0, none⟩), .int .i64 b1.Lo, .pointer (some ⟨b4, 1, none⟩), .int .i64 b1.Hi, .int .i64 (mx b1.Lo b1.Hi), .bool false, .bool false, .bool (decide (b1.Lo > b1.Hi)), .pointer (some ⟨b4, 0, none⟩), .int .i64 b1.Lo, .pointer (some ⟨b4, 1, none⟩), .int .i64 b1.Hi, .bool (decide (b1.Lo > b1.Hi))], []⟩) (by kernel_rfl) ?_
        refine wpList_nil ?_
        refine hK52 _ _ ?_
        have hq_ := ite_some h; clear h; rcases hq_ with ⟨c54, h⟩ | ⟨c54, h⟩
        · have c54 : b1.Lo > b1.Hi := c54
          refine wpRwI 31 (x := (decide (b1.Lo > b1.Hi))) (v := true) (by kernel_rfl) (decide_eq_true c54) ?_
          refine wpRwI 36 (x := (decide (b1.Lo > b1.Hi))) (v := true) (by kernel_rfl) (decide_eq_true c54) ?_
          refine condT (by kernel_rfl) ?_
          refine wp_seq_k (fun K55 hK56 => ?_)
          refine wp_region_lit ?_
          refine seqS1 (a' := ⟨#[.agg #[.int .i64 b1.Lo, .int .i64 b1.Hi, .bool b1.Unknown], .pointer (some ⟨b4, 0, none⟩), .int .i64 11, .bool false, .pointer (some ⟨b4, 2, none⟩), .bool false, .bool false, undef, undef, undef, undef, undef, undef, undef, undef, .bool false, .bool false, .pointer (some ⟨b4, 0, none⟩), .int .i64 b1.Lo, .pointer (some ⟨b4, 1, none⟩), .int .i64 b1.Hi, .int .i64 (mn b1.Lo b1.Hi), .bool false, .bool false, .pointer (some ⟨b4, 0, none⟩), .int .i64 b1.Lo, .pointer (some ⟨b4, 1, none⟩), .int .i64 b1.Hi, .int .i64 (mx b1.Lo b1.Hi), .bool false, .bool false, .bool true, .pointer (some ⟨b4, 0, none⟩), .int .i64 b1.Lo, .pointer (some ⟨b4, 1, none⟩), .int .i64 b1.Hi, .bool true], []⟩) (by kernel_rfl) ?_
          refine wpList_nil ?_
          refine hK56 _ _ ?_
          refine wp_ret ?_
          refine hr13 _ _ ?_
          refine hret _ _ ?_
          refine ends_still (v := Value.int .i64 11) (by kernel_rfl) (by kernel_rfl) ?_
          have HS68 := HS6.drop
          injection h with h
          subst h
          exact ⟨f, rfl, FM.le.refl _, HS68⟩
        · have c54 : ¬ (b1.Lo > b1.Hi) := c54
          refine wpRwI 31 (x := (decide (b1.Lo > b1.Hi))) (v := false) (by kernel_rfl) (decide_eq_false c54) ?_
          refine wpRwI 36 (x := (decide (b1.Lo > b1.Hi))) (v := false) (by kernel_rfl) (decide_eq_false c54) ?_
          refine condF (by kernel_rfl) ?_
          refine wp_skip ?_
          refine hn12 _ _ ?_
          refine hK9 _ _ ?_
          refine wp_seq_k (fun K59 hK60 => ?_)
          refine wp_region_lit ?_
          refine seqS1 (a' := ⟨#[.agg #[.int .i64 b1.Lo, .int .i64 b1.Hi, .bool b1.Unknown], .pointer (some ⟨b4, 0, none⟩), .int .i64 0, .bool false, .pointer (some ⟨b4, 2, none⟩), .bool false, .bool false, undef, undef, undef, undef, undef, undef, undef, undef, .bool false, .bool false, .pointer (some ⟨b4, 0, none⟩), .int .i64 b1.Lo, .pointer (some ⟨b4, 1, none⟩), .int .i64 b1.Hi, .int .i64 (mn b1.Lo b1.Hi), .bool false, .bool false, .pointer (some ⟨b4, 0, none⟩), .int .i64 b1.Lo, .pointer (some ⟨b4, 1, none⟩), .int .i64 b1.Hi, .int .i64 (mx b1.Lo b1.Hi), .bool false, .bool false, .bool false, .pointer (some ⟨b4, 0, none⟩), .int .i64 b1.Lo, .pointer (some ⟨b4, 1, none⟩), .int .i64 b1.Hi, .bool false], []⟩) (by kernel_rfl) ?_
          refine wpList_nil ?_
          refine hK60 _ _ ?_
          refine wp_ret ?_
          refine hret _ _ ?_
          refine ends_still (v := Value.int .i64 0) (by kernel_rfl) (by kernel_rfl) ?_
          have HS70 := HS6.drop
          injection h with h
          subst h
          exact ⟨f, rfl, FM.le.refl _, HS70⟩

set_option maxRecDepth 100000 in
set_option maxHeartbeats 4000000 in
theorem bound_None_Light.calls (k : Nat)   {t w : World} {f : FM} {H : List Seg} (HS : St t w f (H)) (r1 : S_Bound) (h : bound_None_Light k = some r1) :
    Calls Try.prog 82 #[] w (fun e w' => ∃ (g : FM), e = .returned (Value.agg #[.int .i64 r1.Lo, .int .i64 r1.Hi, .bool r1.Unknown]) ∧ FM.le f g ∧ St t w' g (H)) := by
  unfold bound_None_Light at h
  refine enter Try.func82 rfl (tm := #[undef, undef]) (by kernel_rfl) ?_
  intro B hret hnor hnp
  refine wp_seq_k (fun K1 hK2 => ?_)
  refine wp_region_lit ?_
  refine seqK rfl (does_alloc (z := Value.agg #[.int .i64 0, .int .i64 0, .bool false]) (cs := #[.int .i64 0, .int .i64 0, .bool false]) rfl (by kernel_rfl) rfl HS ?_)
  intro b3 W4 HS5
  refine wpList_nil ?_
  refine hK2 _ _ ?_
  refine wp_seq_k (fun K7 hK8 => ?_)
  refine wp_region_lit ?_
  refine seqL1 (by kernel_rfl) ?_
  refine seqK rfl (does_store (n := 3) (vs := [.int .i64 0, .int .i64 0, .bool true]) (cs' := #[.int .i64 0, .int .i64 0, .bool true]) rfl (by kernel_rfl) (by kernel_rfl : _ = Value.pointer (some ⟨b3, 0, none⟩)) (by kernel_rfl : _ = Value.agg #[.int .i64 0, .int .i64 0, .bool true]) rfl rfl (by intro u_ hu_; simp only [List.mem_cons, List.not_mem_nil, or_false] at hu_; rcases hu_ with rfl | rfl | rfl <;> rfl) HS5 (Nat.le_of_ble_eq_true rfl) (by kernel_rfl) ?_)
  intro W9 HS10
  refine wpList_nil ?_
  refine hK8 _ _ ?_
  refine wp_ret ?_
  refine hret _ _ ?_
  refine ends (v := Value.agg #[.int .i64 0, .int .i64 0, .bool true]) (results1 (q1 := .cell 0 54) (by kernel_rfl) (resN (n := 3) (cs := [.int .i64 0, .int .i64 0, .bool true]) (by kernel_rfl : _ = Value.pointer (some ⟨b3, 0, none⟩)) Try.underlying54 rfl (by kernel_rfl) rfl (HS10.cells 0 3 _ rfl))) (by kernel_rfl) ?_
  have HS11 := HS10.drop
  injection h with h
  subst h
  exact ⟨f, rfl, FM.le.refl _, HS11⟩

set_option maxRecDepth 100000 in
set_option maxHeartbeats 4000000 in
theorem bound_Norm_Light.calls (k : Nat)  (b1 : S_Bound) {t w : World} {f : FM} {H : List Seg} (HS : St t w f (H)) (r1 : S_Bound) (h : bound_Norm_Light k b1 = some r1) :
    Calls Try.prog 46 #[.agg #[.int .i64 b1.Lo, .int .i64 b1.Hi, .bool b1.Unknown]] w (fun e w' => ∃ (g : FM), e = .returned (Value.agg #[.int .i64 r1.Lo, .int .i64 r1.Hi, .bool r1.Unknown]) ∧ FM.le f g ∧ St t w' g (H)) := by
  unfold bound_Norm_Light at h
  refine enter Try.func46 rfl (tm := #[.agg #[.int .i64 b1.Lo, .int .i64 b1.Hi, .bool b1.Unknown], undef, undef, undef, undef, undef, undef, undef]) (by kernel_rfl) ?_
  intro B hret hnor hnp
  refine wp_seq_k (fun K2 hK3 => ?_)
  refine wp_region_lit ?_
  refine seqK rfl (does_box (cs := #[.int .i64 b1.Lo, .int .i64 b1.Hi, .bool b1.Unknown]) rfl (by kernel_rfl : _ = Value.agg #[.int .i64 b1.Lo, .int .i64 b1.Hi, .bool b1.Unknown]) rfl HS ?_)
  intro b4 W5 HS6
  refine seqK rfl (does_alloc (z := Value.agg #[.int .i64 0, .int .i64 0, .bool false]) (cs := #[.int .i64 0, .int .i64 0, .bool false]) rfl (by kernel_rfl) rfl HS6 ?_)
  intro b8 W9 HS10
  refine wpList_nil ?_
  refine hK3 _ _ ?_
  refine wp_seq_k (fun K12 hK13 => ?_)
  refine wp_seq_k (fun K14 hK15 => ?_)
  refine wp_region_lit ?_
  refine seqK rfl (does_run (run_loadN (n := 3) rfl Try.underlying54 rfl (by kernel_rfl) (by kernel_rfl : _ = Value.pointer (some ⟨b4, 0, none⟩)) (cs := [.int .i64 b1.Lo, .int .i64 b1.Hi, .bool b1.Unknown]) rfl (HS10.u1.cells 0 3 _ rfl)) ?_)
  have hq_ := bind_some h; clear h; obtain ⟨vt16, hc17, h⟩ := hq_
  refine seqK rfl (does_call (f := 81) (args := #[.agg #[.int .i64 b1.Lo, .int .i64 b1.Hi, .bool b1.Unknown]]) (by kernel_rfl) (bound_Check_Light.calls k b1 HS10 vt16 hc17) ?_)
  rintro _ W20 ⟨f18, rfl, L19, HS21⟩
  refine ⟨_, rfl, ?_⟩
  refine seqS1 (a' := ⟨#[.agg #[.int .i64 b1.Lo, .int .i64 b1.Hi, .bool b1.Unknown], .pointer (some ⟨b4, 0, none⟩), .pointer (some ⟨b8, 0, none⟩), .agg #[.int .i64 b1.Lo, .int .i64 b1.Hi, .bool b1.Unknown], .int .i64 vt16, .bool (vt16 != 0), undef, undef], []⟩) (by kernel_rfl) ?_
  refine wpList_nil ?_
  refine hK15 _ _ ?_
  have hq_ := ite_some h; clear h; rcases hq_ with ⟨c23, h⟩ | ⟨c23, h⟩
  · have c23 : vt16 ≠ 0 := c23
    refine wpRwI 5 (x := (vt16 != 0)) (v := true) (by kernel_rfl) (bne_iff_ne.mpr c23) ?_
    refine condT (by kernel_rfl) ?_
    refine wp_seq_k (fun K24 hK25 => ?_)
    refine wp_region_lit ?_
    have hq_ := bind_some h; clear h; obtain ⟨vt26, hc27, h⟩ := hq_
    refine seqK rfl (does_call (f := 82) (args := #[]) (by kernel_rfl) (bound_None_Light.calls k  HS21 vt26 hc27) ?_)
    rintro _ W30 ⟨f28, rfl, L29, HS31⟩
    refine ⟨_, rfl, ?_⟩
    refine seqK rfl (does_store (n := 3) (vs := [.int .i64 vt26.Lo, .int .i64 vt26.Hi, .bool vt26.Unknown]) (cs' := #[.int .i64 vt26.Lo, .int .i64 vt26.Hi, .bool vt26.Unknown]) rfl (by kernel_rfl) (by kernel_rfl : _ = Value.pointer (some ⟨b8, 0, none⟩)) (by kernel_rfl : _ = Value.agg #[.int .i64 vt26.Lo, .int .i64 vt26.Hi, .bool vt26.Unknown]) rfl rfl (by intro u_ hu_; simp only [List.mem_cons, List.not_mem_nil, or_false] at hu_; rcases hu_ with rfl | rfl | rfl <;> rfl) HS31 (Nat.le_of_ble_eq_true rfl) (by kernel_rfl) ?_)
    intro W32 HS33
    refine wpList_nil ?_
    refine hK25 _ _ ?_
    refine wp_ret ?_
    refine hret _ _ ?_
    refine ends (v := Value.agg #[.int .i64 vt26.Lo, .int .i64 vt26.Hi, .bool vt26.Unknown]) (results1 (q1 := .cell 2 54) (by kernel_rfl) (resN (n := 3) (cs := [.int .i64 vt26.Lo, .int .i64 vt26.Hi, .bool vt26.Unknown]) (by kernel_rfl : _ = Value.pointer (some ⟨b8, 0, none⟩)) Try.underlying54 rfl (by kernel_rfl) rfl (HS33.cells 0 3 _ rfl))) (by kernel_rfl) ?_
    have HS38 := HS33.drop
    have HS39 := HS38.drop
    injection h with h
    subst h
    exact ⟨f28, rfl, (L19.trans L29), HS39⟩
  · have c23 : ¬ (vt16 ≠ 0) := c23
    refine wpRwI 5 (x := (vt16 != 0)) (v := false) (by kernel_rfl) (bne_eq_false_iff_eq.mpr (Decidable.of_not_not c23)) ?_
    refine condF (by kernel_rfl) ?_
    refine wp_skip ?_
    refine hK13 _ _ ?_
    refine wp_seq_k (fun K34 hK35 => ?_)
    refine wp_region_lit ?_
    refine seqK rfl (does_run (run_loadN (n := 3) rfl Try.underlying54 rfl (by kernel_rfl) (by kernel_rfl : _ = Value.pointer (some ⟨b4, 0, none⟩)) (cs := [.int .i64 b1.Lo, .int .i64 b1.Hi, .bool b1.Unknown]) rfl (HS21.u1.cells 0 3 _ rfl)) ?_)
    refine seqK rfl (does_store (n := 3) (vs := [.int .i64 b1.Lo, .int .i64 b1.Hi, .bool b1.Unknown]) (cs' := #[.int .i64 b1.Lo, .int .i64 b1.Hi, .bool b1.Unknown]) rfl (by kernel_rfl) (by kernel_rfl : _ = Value.pointer (some ⟨b8, 0, none⟩)) (by kernel_rfl : _ = Value.agg #[.int .i64 b1.Lo, .int .i64 b1.Hi, .bool b1.Unknown]) rfl rfl (by intro u_ hu_; simp only [List.mem_cons, List.not_mem_nil, or_false] at hu_; rcases hu_ with rfl | rfl | rfl <;> rfl) HS21 (Nat.le_of_ble_eq_true rfl) (by kernel_rfl) ?_)
    intro W36 HS37
    refine wpList_nil ?_
    refine hK35 _ _ ?_
    refine wp_ret ?_
    refine hret _ _ ?_
    refine ends (v := Value.agg #[.int .i64 b1.Lo, .int .i64 b1.Hi, .bool b1.Unknown]) (results1 (q1 := .cell 2 54) (by kernel_rfl) (resN (n := 3) (cs := [.int .i64 b1.Lo, .int .i64 b1.Hi, .bool b1.Unknown]) (by kernel_rfl : _ = Value.pointer (some ⟨b8, 0, none⟩)) Try.underlying54 rfl (by kernel_rfl) rfl (HS37.cells 0 3 _ rfl))) (by kernel_rfl) ?_
    have HS40 := HS37.drop
    have HS41 := HS40.drop
    injection h with h
    subst h
    exact ⟨f18, rfl, L19, HS41⟩

set_option maxRecDepth 100000 in
set_option maxHeartbeats 4000000 in
theorem bound_Of_Light.calls (k : Nat)  (lo1 : Int) (hi2 : Int) {t w : World} {f : FM} {H : List Seg} (HS : St t w f (H)) (r1 : S_Bound) (h : bound_Of_Light k lo1 hi2 = some r1) :
    Calls Try.prog 23 #[.int .i64 lo1, .int .i64 hi2] w (fun e w' => ∃ (g : FM), e = .returned (Value.agg #[.int .i64 r1.Lo, .int .i64 r1.Hi, .bool r1.Unknown]) ∧ FM.le f g ∧ St t w' g (H)) := by
  unfold bound_Of_Light at h
  refine enter Try.func23 rfl (tm := #[.int .i64 lo1, .int .i64 hi2, undef, undef, undef, undef, undef, undef, undef]) (by kernel_rfl) ?_
  intro B hret hnor hnp
  refine wp_seq_k (fun K3 hK4 => ?_)
  refine wp_region_lit ?_
  refine seqK rfl (does_alloc (z := Value.agg #[.int .i64 0, .int .i64 0, .bool false]) (cs := #[.int .i64 0, .int .i64 0, .bool false]) rfl (by kernel_rfl) rfl HS ?_)
  intro b5 W6 HS7
  refine wpList_nil ?_
  refine hK4 _ _ ?_
  refine wp_seq_k (fun K9 hK10 => ?_)
  refine wp_region_lit ?_
  have hq_ := bind_some h; clear h; obtain ⟨vt11, hc12, h⟩ := hq_
  refine seqL3 (by kernel_rfl) ?_
  refine seqK rfl (does_call (f := 46) (args := #[.agg #[.int .i64 lo1, .int .i64 hi2, .bool false]]) (by kernel_rfl) (bound_Norm_Light.calls k (⟨lo1, hi2, false⟩ : S_Bound) HS7 vt11 hc12) ?_)
  rintro _ W15 ⟨f13, rfl, L14, HS16⟩
  refine ⟨_, rfl, ?_⟩
  refine seqK rfl (does_store (n := 3) (vs := [.int .i64 vt11.Lo, .int .i64 vt11.Hi, .bool vt11.Unknown]) (cs' := #[.int .i64 vt11.Lo, .int .i64 vt11.Hi, .bool vt11.Unknown]) rfl (by kernel_rfl) (by kernel_rfl : _ = Value.pointer (some ⟨b5, 0, none⟩)) (by kernel_rfl : _ = Value.agg #[.int .i64 vt11.Lo, .int .i64 vt11.Hi, .bool vt11.Unknown]) rfl rfl (by intro u_ hu_; simp only [List.mem_cons, List.not_mem_nil, or_false] at hu_; rcases hu_ with rfl | rfl | rfl <;> rfl) HS16 (Nat.le_of_ble_eq_true rfl) (by kernel_rfl) ?_)
  intro W17 HS18
  refine wpList_nil ?_
  refine hK10 _ _ ?_
  refine wp_ret ?_
  refine hret _ _ ?_
  refine ends (v := Value.agg #[.int .i64 vt11.Lo, .int .i64 vt11.Hi, .bool vt11.Unknown]) (results1 (q1 := .cell 4 54) (by kernel_rfl) (resN (n := 3) (cs := [.int .i64 vt11.Lo, .int .i64 vt11.Hi, .bool vt11.Unknown]) (by kernel_rfl : _ = Value.pointer (some ⟨b5, 0, none⟩)) Try.underlying54 rfl (by kernel_rfl) rfl (HS18.cells 0 3 _ rfl))) (by kernel_rfl) ?_
  have HS19 := HS18.drop
  injection h with h
  subst h
  exact ⟨f13, rfl, L14, HS19⟩

set_option maxRecDepth 100000 in
set_option maxHeartbeats 4000000 in
theorem spymake_Stream_Range.calls (k : Nat) (b1 : Nat) (A4 : Option Addr) (c5 : Nat) (s3 : S_Stream) (low7 : Int) (high8 : Int) {t w : World} {f : FM} {H : List Seg} (HS : St t w f ([(b1, .cells #[.slice A4 s3.L.length c5, .int .i64 s3.vat] 25 (0, 0))] :: H)) (HR6 : SlR (tInt .i64) f A4 c5 s3.L) (r1 : Int) (r2 : Int) (h : spymake_Stream_Range k s3 low7 high8 = some (r1, r2)) :
    Calls Try.prog 25 #[.pointer (some ⟨b1, 0, none⟩), .int .i64 low7, .int .i64 high8] w (fun e w' => ∃ (g : FM), e = .returned (Value.int .i64 r1) ∧ FM.le f g ∧ St t w' g ([(b1, .cells #[.slice A4 s3.L.length c5, .int .i64 r2] 25 (0, 0))] :: H)) := by
  unfold spymake_Stream_Range at h
  refine enter Try.func25 rfl (tm := #[.pointer (some ⟨b1, 0, none⟩), .int .i64 low7, .int .i64 high8, undef, undef, undef, undef, undef, undef, undef, undef, undef, undef, undef, undef, undef, undef, undef, undef]) (by kernel_rfl) ?_
  intro B hret hnor hnp
  refine wp_seq_k (fun K9 hK10 => ?_)
  refine wp_region_lit ?_
  refine seqS1 (a' := ⟨#[.pointer (some ⟨b1, 0, none⟩), .int .i64 low7, .int .i64 high8, undef, undef, undef, .int .i64 0, undef, undef, undef, undef, undef, undef, undef, undef, undef, undef, undef, undef], []⟩) (by kernel_rfl) ?_
  refine wpList_nil ?_
  refine hK10 _ _ ?_
  refine wp_seq_k (fun K11 hK12 => ?_)
  refine wp_seq_k (fun K13 hK14 => ?_)
  refine wp_region_lit ?_
  refine seqS3 (a' := ⟨#[.pointer (some ⟨b1, 0, none⟩), .int .i64 low7, .int .i64 high8, undef, undef, undef, .int .i64 0, .int .i64 high8, .int .i64 low7, .bool (decide (high8 < low7)), undef, undef, undef, undef, undef, undef, undef, undef, undef], []⟩) (by kernel_rfl) ?_
  refine wpList_nil ?_
  refine hK14 _ _ ?_
  have hq_ := ite_some h; clear h; rcases hq_ with ⟨c16, h⟩ | ⟨c16, h⟩
  · have c16 : high8 < low7 := c16
    refine wpRwI 9 (x := (decide (high8 < low7))) (v := true) (by kernel_rfl) (decide_eq_true c16) ?_
    refine condT (by kernel_rfl) ?_
    refine wp_seq_k (fun K17 hK18 => ?_)
    refine wp_region_lit ?_
    refine seqS2 (a' := ⟨#[.pointer (some ⟨b1, 0, none⟩), .int .i64 low7, .int .i64 high8, undef, undef, undef, .int .i64 low7, .int .i64 high8, .int .i64 low7, .bool true, .int .i64 low7, undef, undef, undef, undef, undef, undef, undef, undef], []⟩) (by kernel_rfl) ?_
    refine wpList_nil ?_
    refine hK18 _ _ ?_
    refine wp_ret ?_
    refine hret _ _ ?_
    refine ends_still (v := Value.int .i64 low7) (by kernel_rfl) (by kernel_rfl) ?_
    injection h with h
    injection h with h0_ h
    subst h0_ h
    exact ⟨f, rfl, FM.le.refl _, HS⟩
  · have c16 : ¬ (high8 < low7) := c16
    refine wpRwI 9 (x := (decide (high8 < low7))) (v := false) (by kernel_rfl) (decide_eq_false c16) ?_
    refine condF (by kernel_rfl) ?_
    refine wp_skip ?_
    refine hK12 _ _ ?_
    refine wp_seq_k (fun K19 hK20 => ?_)
    refine wp_region_lit ?_
    have hq_ := bind_some h; clear h; obtain ⟨⟨vt21, vt22⟩, hc23, h⟩ := hq_
    refine seqL6 (by kernel_rfl) ?_
    refine seqK rfl (does_call (f := 12) (args := #[.pointer (some ⟨b1, 0, none⟩), .int .i64 (w64 ((w64 (high8 - low7)) + 1))]) (by kernel_rfl) (spymake_Stream_Next.calls k b1 A4 c5 s3 (w64 ((w64 (high8 - low7)) + 1)) HS HR6 vt21 vt22 hc23) ?_)
    rintro _ W26 ⟨f24, rfl, L25, HS27⟩
    refine ⟨_, rfl, ?_⟩
    refine seqS2 (a' := ⟨#[.pointer (some ⟨b1, 0, none⟩), .int .i64 low7, .int .i64 high8, undef, undef, undef, .int .i64 (w64 (low7 + vt21)), .int .i64 high8, .int .i64 low7, .bool false, undef, .int .i64 low7, .pointer (some ⟨b1, 0, none⟩), .int .i64 high8, .int .i64 low7, .int .i64 (w64 (high8 - low7)), .int .i64 (w64 ((w64 (high8 - low7)) + 1)), .int .i64 vt21, .int .i64 (w64 (low7 + vt21))], []⟩) (by kernel_rfl) ?_
    refine wpList_nil ?_
    refine hK20 _ _ ?_
    refine wp_ret ?_
    refine hret _ _ ?_
    refine ends_still (v := Value.int .i64 (w64 (low7 + vt21))) (by kernel_rfl) (by kernel_rfl) ?_
    injection h with h
    injection h with h0_ h
    subst h0_ h
    exact ⟨f24, rfl, L25, HS27⟩

set_option maxRecDepth 100000 in
set_option maxHeartbeats 4000000 in
theorem bound_Check_Part.calls (k : Nat)  (b1 : S_Bound) {t w : World} {f : FM} {H : List Seg} (HS : St t w f (H)) (r1 : Int) (h : bound_Check_Part k b1 = some r1) :
    Calls Try.prog 83 #[.agg #[.int .i64 b1.Lo, .int .i64 b1.Hi, .bool b1.Unknown]] w (fun e w' => ∃ (g : FM), e = .returned (Value.int .i64 r1) ∧ FM.le f g ∧ St t w' g (H)) := by
  unfold bound_Check_Part at h
  refine enter Try.func83 rfl (tm := #[.agg #[.int .i64 b1.Lo, .int .i64 b1.Hi, .bool b1.Unknown], undef, undef, undef, undef, undef, undef, undef, undef, undef, undef, undef, undef, undef, undef, undef, undef, undef, undef, undef, undef, undef, undef, undef, undef, undef, undef, undef, undef, undef, undef, undef, undef, undef, undef, undef, undef]) (by kernel_rfl) ?_
  intro B hret hnor hnp
  refine wp_seq_k (fun K2 hK3 => ?_)
  refine wp_region_lit ?_
  refine seqK rfl (does_box (cs := #[.int .i64 b1.Lo, .int .i64 b1.Hi, .bool b1.Unknown]) rfl (by kernel_rfl : _ = Value.agg #[.int .i64 b1.Lo, .int .i64 b1.Hi, .bool b1.Unknown]) rfl HS ?_)
  intro b4 W5 HS6
  refine seqS1 (a' := ⟨#[.agg #[.int .i64 b1.Lo, .int .i64 b1.Hi, .bool b1.Unknown], .pointer (some ⟨b4, 0, none⟩), .int .i64 0, undef, undef, undef, undef, undef, undef, undef, undef, undef, undef, undef, undef, undef, undef, undef, undef, undef, undef, undef, undef, undef, undef, undef, undef, undef, undef, undef, undef, undef, undef, undef, undef, undef, undef], []⟩) (by kernel_rfl) ?_
  refine wpList_nil ?_
  refine hK3 _ _ ?_
  refine wp_seq_k (fun K8 hK9 => ?_)
  refine blockK (fun B10 hx11 hn12 hr13 ho14 hp15 => ?_)
  refine wp_seq_k (fun K17 hK18 => ?_)
  refine wp_region_lit ?_
  refine seqL1 (by kernel_rfl) ?_
  refine seqK rfl (does_run (run_load rfl Try.underlying4 rfl (by kernel_rfl : _ = Value.pointer (some ⟨b4, 2, none⟩)) (HS6.cell 2)) ?_)
  refine seqS1 (a' := ⟨#[.agg #[.int .i64 b1.Lo, .int .i64 b1.Hi, .bool b1.Unknown], .pointer (some ⟨b4, 0, none⟩), .int .i64 0, undef, .pointer (some ⟨b4, 2, none⟩), .bool b1.Unknown, .bool b1.Unknown, undef, undef, undef, undef, undef, undef, undef, undef, undef, undef, undef, undef, undef, undef, undef, undef, undef, undef, undef, undef, undef, undef, undef, undef, undef, undef, undef, undef, undef, undef], []⟩) (by kernel_rfl) ?_
  have hq_ := ite_some h; clear h; rcases hq_ with ⟨c19, h⟩ | ⟨c19, h⟩
  · have c19 : b1.Unknown = true := c19
    refine seqRwI 5 (x := b1.Unknown) (v := true) (by kernel_rfl) c19 ?_
    refine seqRwI 6 (x := b1.Unknown) (v := true) (by kernel_rfl) c19 ?_
    refine seqL1 (by kernel_rfl) ?_
    refine seqG (by kernel_rfl) (does_run (run_load rfl Try.underlying56 rfl (by kernel_rfl : _ = Value.pointer (some ⟨b4, 0, none⟩)) (HS6.cell 0)) ?_)
    refine seqS2 (a' := ⟨#[.agg #[.int .i64 b1.Lo, .int .i64 b1.Hi, .bool b1.Unknown], .pointer (some ⟨b4, 0, none⟩), .int .i64 0, undef, .pointer (some ⟨b4, 2, none⟩), .bool true, .bool true, .pointer (some ⟨b4, 0, none⟩), .int .i64 b1.Lo, .bool (b1.Lo != 0), .bool (b1.Lo != 0), undef, undef, undef, undef, undef, undef, undef, undef, undef, undef, undef, undef, undef, undef, undef, undef, undef, undef, undef, undef, undef, undef, undef, undef, undef, undef], []⟩) (by kernel_rfl) ?_
    have hq_ := ite_some h; clear h; rcases hq_ with ⟨c20, h⟩ | ⟨c20, h⟩
    · have c20 : b1.Lo ≠ 0 := c20
      refine seqRwI 9 (x := (b1.Lo != 0)) (v := true) (by kernel_rfl) (bne_iff_ne.mpr c20) ?_
      refine seqRwI 10 (x := (b1.Lo != 0)) (v := true) (by kernel_rfl) (bne_iff_ne.mpr c20) ?_
      refine seqS6 (a' := ⟨#[.agg #[.int .i64 b1.Lo, .int .i64 b1.Hi, .bool b1.Unknown], .pointer (some ⟨b4, 0, none⟩), .int .i64 0, .bool true, .pointer (some ⟨b4, 2, none⟩), .bool true, .bool true, .pointer (some ⟨b4, 0, none⟩), .int .i64 b1.Lo, .bool true, .bool true, undef, undef, undef, .bool true, .bool true, undef, undef, undef, undef, undef, undef, undef, undef, undef, undef, undef, undef, undef, undef, undef, undef, undef, undef, undef, undef, undef], []⟩) (by kernel_rfl) ?_
      refine wpList_nil ?_
      refine hK18 _ _ ?_
      refine condT (by kernel_rfl) ?_
      refine wp_seq_k (fun K21 hK22 => ?_)
      refine wp_region_lit ?_
      refine seqS1 (a' := ⟨#[.agg #[.int .i64 b1.Lo, .int .i64 b1.Hi, .bool b1.Unknown], .pointer (some ⟨b4, 0, none⟩), .int .i64 3, .bool true, .pointer (some ⟨b4, 2, none⟩), .bool true, .bool true, .pointer (some ⟨b4, 0, none⟩), .int .i64 b1.Lo, .bool true, .bool true, undef, undef, undef, .bool true, .bool true, undef, undef, undef, undef, undef, undef, undef, undef, undef, undef, undef, undef, undef, undef, undef, undef, undef, undef, undef, undef, undef], []⟩) (by kernel_rfl) ?_
      refine wpList_nil ?_
      refine hK22 _ _ ?_
      refine wp_ret ?_
      refine hr13 _ _ ?_
      refine hret _ _ ?_
      refine ends_still (v := Value.int .i64 3) (by kernel_rfl) (by kernel_rfl) ?_
      have HS61 := HS6.drop
      injection h with h
      subst h
      exact ⟨f, rfl, FM.le.refl _, HS61⟩
    · have c20 : ¬ (b1.Lo ≠ 0) := c20
      refine seqRwI 9 (x := (b1.Lo != 0)) (v := false) (by kernel_rfl) (bne_eq_false_iff_eq.mpr (Decidable.of_not_not c20)) ?_
      refine seqRwI 10 (x := (b1.Lo != 0)) (v := false) (by kernel_rfl) (bne_eq_false_iff_eq.mpr (Decidable.of_not_not c20)) ?_
      refine seqL1 (by kernel_rfl) ?_
      refine seqG (by kernel_rfl) (does_run (run_load rfl Try.underlying56 rfl (by kernel_rfl : _ = Value.pointer (some ⟨b4, 1, none⟩)) (HS6.cell 1)) ?_)
      refine seqS4 (a' := ⟨#[.agg #[.int .i64 b1.Lo, .int .i64 b1.Hi, .bool b1.Unknown], .pointer (some ⟨b4, 0, none⟩), .int .i64 0, .bool (b1.Hi != 0), .pointer (some ⟨b4, 2, none⟩), .bool true, .bool true, .pointer (some ⟨b4, 0, none⟩), .int .i64 b1.Lo, .bool false, .bool false, .pointer (some ⟨b4, 1, none⟩), .int .i64 b1.Hi, .bool (b1.Hi != 0), .bool (b1.Hi != 0), .bool (b1.Hi != 0), undef, undef, undef, undef, undef, undef, undef, undef, undef, undef, undef, undef, undef, undef, undef, undef, undef, undef, undef, undef, undef], []⟩) (by kernel_rfl) ?_
      refine wpList_nil ?_
      refine hK18 _ _ ?_
      have hq_ := ite_some h; clear h; rcases hq_ with ⟨c24, h⟩ | ⟨c24, h⟩
      · have c24 : b1.Hi ≠ 0 := c24
        refine wpRwI 3 (x := (b1.Hi != 0)) (v := true) (by kernel_rfl) (bne_iff_ne.mpr c24) ?_
        refine wpRwI 13 (x := (b1.Hi != 0)) (v := true) (by kernel_rfl) (bne_iff_ne.mpr c24) ?_
        refine wpRwI 14 (x := (b1.Hi != 0)) (v := true) (by kernel_rfl) (bne_iff_ne.mpr c24) ?_
        refine wpRwI 15 (x := (b1.Hi != 0)) (v := true) (by kernel_rfl) (bne_iff_ne.mpr c24) ?_
        refine condT (by kernel_rfl) ?_
        refine wp_seq_k (fun K25 hK26 => ?_)
        refine wp_region_lit ?_
        refine seqS1 (a' := ⟨#[.agg #[.int .i64 b1.Lo, .int .i64 b1.Hi, .bool b1.Unknown], .pointer (some ⟨b4, 0, none⟩), .int .i64 3, .bool true, .pointer (some ⟨b4, 2, none⟩), .bool true, .bool true, .pointer (some ⟨b4, 0, none⟩), .int .i64 b1.Lo, .bool false, .bool false, .pointer (some ⟨b4, 1, none⟩), .int .i64 b1.Hi, .bool true, .bool true, .bool true, undef, undef, undef, undef, undef, undef, undef, undef, undef, undef, undef, undef, undef, undef, undef, undef, undef, undef, undef, undef, undef], []⟩) (by kernel_rfl) ?_
        refine wpList_nil ?_
        refine hK26 _ _ ?_
        refine wp_ret ?_
        refine hr13 _ _ ?_
        refine hret _ _ ?_
        refine ends_still (v := Value.int .i64 3) (by kernel_rfl) (by kernel_rfl) ?_
        have HS62 := HS6.drop
        injection h with h
        subst h
        exact ⟨f, rfl, FM.le.refl _, HS62⟩
      · have c24 : ¬ (b1.Hi ≠ 0) := c24
        refine wpRwI 3 (x := (b1.Hi != 0)) (v := false) (by kernel_rfl) (bne_eq_false_iff_eq.mpr (Decidable.of_not_not c24)) ?_
        refine wpRwI 13 (x := (b1.Hi != 0)) (v := false) (by kernel_rfl) (bne_eq_false_iff_eq.mpr (Decidable.of_not_not c24)) ?_
        refine wpRwI 14 (x := (b1.Hi != 0)) (v := false) (by kernel_rfl) (bne_eq_false_iff_eq.mpr (Decidable.of_not_not c24)) ?_
        refine wpRwI 15 (x := (b1.Hi != 0)) (v := false) (by kernel_rfl) (bne_eq_false_iff_eq.mpr (Decidable.of_not_not c24)) ?_
        refine condF (by kernel_rfl) ?_
        refine wp_seq_k (fun K27 hK28 => ?_)
        refine wp_region_lit ?_
        refine seqL1 (by kernel_rfl) ?_
        refine seqK rfl (does_run (run_load rfl Try.underlying56 rfl (by kernel_rfl : _ = Value.pointer (some ⟨b4, 0, none⟩)) (HS6.cell 0)) ?_)
        refine seqL1 (by kernel_rfl) ?_
        refine seqK rfl (does_run (run_load rfl Try.underlying56 rfl (by kernel_rfl : _ = Value.pointer (some ⟨b4, 1, none⟩)) (HS6.cell 1)) ?_)
        refine seqS3 (a' := ⟨#[.agg #[.int .i64 b1.Lo, .int .i64 b1.Hi, .bool b1.Unknown], .pointer (some ⟨b4, 0, none⟩), .int .i64 0, .bool false, .pointer (some ⟨b4, 2, none⟩), .bool true, .bool true, .pointer (some ⟨b4, 0, none⟩), .int .i64 b1.Lo, .bool false, .bool false, .pointer (some ⟨b4, 1, none⟩), .int .i64 b1.Hi, .bool false, .bool false, .bool false, undef, .pointer (some ⟨b4, 0, none⟩), .int .i64 b1.Lo, .pointer (some ⟨b4, 1, none⟩), .int .i64 b1.Hi, .int .i64 (mn b1.Lo b1.Hi), .bool (decide ((mn b1.Lo b1.Hi) < (-1152921504606846976))), .bool (decide ((mn b1.Lo b1.Hi) < (-1152921504606846976))), undef, undef, undef, undef, undef, undef, undef, undef, undef, undef, undef, undef, undef], []⟩) (by kernel_rfl) ?_
        have hq_ := ite_some h; clear h; rcases hq_ with ⟨c29, h⟩ | ⟨c29, h⟩
        · have c29 : (mn b1.Lo b1.Hi) < (-1152921504606846976) := c29
          refine seqRwI 22 (x := (decide ((mn b1.Lo b1.Hi) < (-1152921504606846976)))) (v := true) (by kernel_rfl) (decide_eq_true c29) ?_
          refine seqRwI 23 (x := (decide ((mn b1.Lo b1.Hi) < (-1152921504606846976)))) (v := true) (by kernel_rfl) (decide_eq_true c29) ?_
          refine seqS8 (a' := ⟨#[.agg #[.int .i64 b1.Lo, .int .i64 b1.Hi, .bool b1.Unknown], .pointer (some ⟨b4, 0, none⟩), .int .i64 0, .bool false, .pointer (some ⟨b4, 2, none⟩), .bool true, .bool true, .pointer (some ⟨b4, 0, none⟩), .int .i64 b1.Lo, .bool false, .bool false, .pointer (some ⟨b4, 1, none⟩), .int .i64 b1.Hi, .bool false, .bool false, .bool false, .bool true, .pointer (some ⟨b4, 0, none⟩), .int .i64 b1.Lo, .pointer (some ⟨b4, 1, none⟩), .int .i64 b1.Hi, .int .i64 (mn b1.Lo b1.Hi), .bool true, .bool true, undef, undef, undef, undef, undef, undef, .bool true, undef, undef, undef, undef, undef, undef], []⟩) (by kernel_rfl) ?_
          refine wpList_nil ?_
          refine hK28 _ _ ?_
          refine condT (by kernel_rfl) ?_
          refine wp_seq_k (fun K30 hK31 => ?_)
          refine wp_region_lit ?_
          refine seqS1 (a' := ⟨#[.agg #[.int .i64 b1.Lo, .int .i64 b1.Hi, .bool b1.Unknown], .pointer (some ⟨b4, 0, none⟩), .int .i64 4, .bool false, .pointer (some ⟨b4, 2, none⟩), .bool true, .bool true, .pointer (some ⟨b4, 0, none⟩), .int .i64 b1.Lo, .bool false, .bool false, .pointer (some ⟨b4, 1, none⟩), .int .i64 b1.Hi, .bool false, .bool false, .bool false, .bool true, .pointer (some ⟨b4, 0, none⟩), .int .i64 b1.Lo, .pointer (some ⟨b4, 1, none⟩), .int .i64 b1.Hi, .int .i64 (mn b1.Lo b1.Hi), .bool true, .bool true, undef, undef, undef, undef, undef, undef, .bool true, undef, undef, undef, undef, undef, undef], []⟩) (by kernel_rfl) ?_
          refine wpList_nil ?_
          refine hK31 _ _ ?_
          refine wp_ret ?_
          refine hr13 _ _ ?_
          refine hret _ _ ?_
          refine ends_still (v := Value.int .i64 4) (by kernel_rfl) (by kernel_rfl) ?_
          have HS63 := HS6.drop
          injection h with h
          subst h
          exact ⟨f, rfl, FM.le.refl _, HS63⟩
        · have c29 : ¬ ((mn b1.Lo b1.Hi) < (-1152921504606846976)) := c29
          refine seqRwI 22 (x := (decide ((mn b1.Lo b1.Hi) < (-1152921504606846976)))) (v := false) (by kernel_rfl) (decide_eq_false c29) ?_
          refine seqRwI 23 (x := (decide ((mn b1.Lo b1.Hi) < (-1152921504606846976)))) (v := false) (by kernel_rfl) (decide_eq_false c29) ?_
          refine seqL1 (by kernel_rfl) ?_
          refine seqG (by kernel_rfl) (does_run (run_load rfl Try.underlying56 rfl (by kernel_rfl : _ = Value.pointer (some ⟨b4, 0, none⟩)) (HS6.cell 0)) ?_)
          refine seqL1 (by kernel_rfl) ?_
          refine seqG (by kernel_rfl) (does_run (run_load rfl Try.underlying56 rfl (by kernel_rfl : _ = Value.pointer (some ⟨b4, 1, none⟩)) (HS6.cell 1)) ?_)
          refine seqS4 (a' := ⟨#[.agg #[.int .i64 b1.Lo, .int .i64 b1.Hi, .bool b1.Unknown], .pointer (some ⟨b4, 0, none⟩), .int .i64 0, .bool false, .pointer (some ⟨b4, 2, none⟩), .bool true, .bool true, .pointer (some ⟨b4, 0, none⟩), .int .i64 b1.Lo, .bool false, .bool false, .pointer (some ⟨b4, 1, none⟩), .int .i64 b1.Hi, .bool false, .bool false, .bool false, .bool (decide ((mx b1.Lo b1.Hi) > 1152921504606846976)), .pointer (some ⟨b4, 0, none⟩), .int .i64 b1.Lo, .pointer (some ⟨b4, 1, none⟩), .int .i64 b1.Hi, .int .i64 (mn b1.Lo b1.Hi), .bool false, .bool false, .pointer (some ⟨b4, 0, none⟩), .int .i64 b1.Lo, .pointer (some ⟨b4, 1, none⟩), .int .i64 b1.Hi, .int .i64 (mx b1.Lo b1.Hi), .bool (decide ((mx b1.Lo b1.Hi) > 1152921504606846976)), .bool (decide ((mx b1.Lo b1.Hi) > 1152921504606846976)), undef, undef, undef, undef, undef, undef], []⟩) (by kernel_rfl) ?_
          refine wpList_nil ?_
          refine hK28 _ _ ?_
          have hq_ := ite_some h; clear h; rcases hq_ with ⟨c33, h⟩ | ⟨c33, h⟩
          · have c33 : (mx b1.Lo b1.Hi) > 1152921504606846976 := c33
            refine wpRwI 16 (x := (decide ((mx b1.Lo b1.Hi) > 1152921504606846976))) (v := true) (by kernel_rfl) (decide_eq_true c33) ?_
            refine wpRwI 29 (x := (decide ((mx b1.Lo b1.Hi) > 1152921504606846976))) (v := true) (by kernel_rfl) (decide_eq_true c33) ?_
            refine wpRwI 30 (x := (decide ((mx b1.Lo b1.Hi) > 1152921504606846976))) (v := true) (by kernel_rfl) (decide_eq_true c33) ?_
            refine condT (by kernel_rfl) ?_
            refine wp_seq_k (fun K34 hK35 => ?_)
            refine wp_region_lit ?_
            refine seqS1 (a' := ⟨#[.agg #[.int .i64 b1.Lo, .int .i64 b1.Hi, .bool b1.Unknown], .pointer (some ⟨b4, 0, none⟩), .int .i64 4, .bool false, .pointer (some ⟨b4, 2, none⟩), .bool true, .bool true, .pointer (some ⟨b4, 0, none⟩), .int .i64 b1.Lo, .bool false, .bool false, .pointer (some ⟨b4, 1, none⟩), .int .i64 b1.Hi, .bool false, .bool false, .bool false, .bool true, .pointer (some ⟨b4, 0, none⟩), .int .i64 b1.Lo, .pointer (some ⟨b4, 1, none⟩), .int .i64 b1.Hi, .int .i64 (mn b1.Lo b1.Hi), .bool false, .bool false, .pointer (some ⟨b4, 0, none⟩), .int .i64 b1.Lo, .pointer (some ⟨b4, 1, none⟩), .int .i64 b1.Hi, .int .i64 (mx b1.Lo b1.Hi), .bool true, .bool true, undef, undef, undef, undef, undef, undef], []⟩) (by kernel_rfl) ?_
            refine wpList_nil ?_
            refine hK35 _ _ ?_
            refine wp_ret ?_
            refine hr13 _ _ ?_
            refine hret _ _ ?_
            refine ends_still (v := Value.int .i64 4) (by kernel_rfl) (by kernel_rfl) ?_
            have HS64 := HS6.drop
            injection h with h
            subst h
            exact ⟨f, rfl, FM.le.refl _, HS64⟩
          · have c33 : ¬ ((mx b1.Lo b1.Hi) > 1152921504606846976) := c33
            refine wpRwI 16 (x := (decide ((mx b1.Lo b1.Hi) > 1152921504606846976))) (v := false) (by kernel_rfl) (decide_eq_false c33) ?_
            refine wpRwI 29 (x := (decide ((mx b1.Lo b1.Hi) > 1152921504606846976))) (v := false) (by kernel_rfl) (decide_eq_false c33) ?_
            refine wpRwI 30 (x := (decide ((mx b1.Lo b1.Hi) > 1152921504606846976))) (v := false) (by kernel_rfl) (decide_eq_false c33) ?_
            refine condF (by kernel_rfl) ?_
            refine wp_seq_k (fun K36 hK37 => ?_)
            refine wp_region_lit ?_
            refine seqL1 (by kernel_rfl) ?_
            refine seqK rfl (does_run (run_load rfl Try.underlying56 rfl (by kernel_rfl : _ = Value.pointer (some ⟨b4, 0, none⟩)) (HS6.cell 0)) ?_)
            refine seqL1 (by kernel_rfl) ?_
            refine seqK rfl (does_run (run_load rfl Try.underlying56 rfl (by kernel_rfl : _ = Value.pointer (some ⟨b4, 1, none⟩)) (HS6.cell 1)) ?_)
            refine seqS2 (a' := ⟨#[.agg #[.int .i64 b1.Lo, .int .i64 b1.Hi, .bool b1.Unknown], .pointer (some ⟨b4, 0, none⟩), .int .i64 0, .bool false, .pointer (some ⟨b4, 2, none⟩), .bool true, .bool true, .pointer (some ⟨b4, 0, none⟩), .int .i64 b1.Lo, .bool false, .bool false, .pointer (some ⟨b4, 1, none⟩), .int .i64 b1.Hi, .bool false, .bool false, .bool false, .bool false, .pointer (some ⟨b4, 0, none⟩), .int .i64 b1.Lo, .pointer (some ⟨b4, 1, none⟩), .int .i64 b1.Hi, .int .i64 (mn b1.Lo b1.Hi), .bool false, .bool false, .pointer (some ⟨b4, 0, none⟩), .int .i64 b1.Lo, .pointer (some ⟨b4, 1, none⟩), .int .i64 b1.Hi, .int .i64 (mx b1.Lo b1.Hi), .bool false, .bool false, .bool (decide (b1.Lo > b1.Hi)), .pointer (some ⟨b4, 0, none⟩), .int .i64 b1.Lo, .pointer (some ⟨b4, 1, none⟩), .int .i64 b1.Hi, .bool (decide (b1.Lo > b1.Hi))], []⟩) (by kernel_rfl) ?_
            refine wpList_nil ?_
            refine hK37 _ _ ?_
            have hq_ := ite_some h; clear h; rcases hq_ with ⟨c39, h⟩ | ⟨c39, h⟩
            · have c39 : b1.Lo > b1.Hi := c39
              refine wpRwI 31 (x := (decide (b1.Lo > b1.Hi))) (v := true) (by kernel_rfl) (decide_eq_true c39) ?_
              refine wpRwI 36 (x := (decide (b1.Lo > b1.Hi))) (v := true) (by kernel_rfl) (decide_eq_true c39) ?_
              refine condT (by kernel_rfl) ?_
              refine wp_seq_k (fun K40 hK41 => ?_)
              refine wp_region_lit ?_
              refine seqS1 (a' := ⟨#[.agg #[.int .i64 b1.Lo, .int .i64 b1.Hi, .bool b1.Unknown], .pointer (some ⟨b4, 0, none⟩), .int .i64 11, .bool false, .pointer (some ⟨b4, 2, none⟩), .bool true, .bool true, .pointer (some ⟨b4, 0, none⟩), .int .i64 b1.Lo, .bool false, .bool false, .pointer (some ⟨b4, 1, none⟩), .int .i64 b1.Hi, .bool false, .bool false, .bool false, .bool false, .pointer (some ⟨b4, 0, none⟩), .int .i64 b1.Lo, .pointer (some ⟨b4, 1, none⟩), .int .i64 b1.Hi, .int .i64 (mn b1.Lo b1.Hi), .bool false, .bool false, .pointer (some ⟨b4, 0, none⟩), .int .i64 b1.Lo, .pointer (some ⟨b4, 1, none⟩), .int .i64 b1.Hi, .int .i64 (mx b1.Lo b1.Hi), .bool false, .bool false, .bool true, .pointer (some ⟨b4, 0, none⟩), .int .i64 b1.Lo, .pointer (some ⟨b4, 1, none⟩), .int .i64 b1.Hi, .bool true], []⟩) (by kernel_rfl) ?_
              refine wpList_nil ?_
              refine hK41 _ _ ?_
              refine wp_ret ?_
              refine hr13 _ _ ?_
              refine hret _ _ ?_
              refine ends_still (v := Value.int .i64 11) (by kernel_rfl) (by kernel_rfl) ?_
              have HS65 := HS6.drop
              injection h with h
              subst h
              exact ⟨f, rfl, FM.le.refl _, HS65⟩
            · have c39 : ¬ (b1.Lo > b1.Hi) := c39
              refine wpRwI 31 (x := (decide (b1.Lo > b1.Hi))) (v := false) (by kernel_rfl) (decide_eq_false c39) ?_
              refine wpRwI 36 (x := (decide (b1.Lo > b1.Hi))) (v := false) (by kernel_rfl) (decide_eq_false c39) ?_
              refine condF (by kernel_rfl) ?_
              refine wp_skip ?_
              refine hn12 _ _ ?_
              refine hK9 _ _ ?_
              refine wp_seq_k (fun K57 hK58 => ?_)
              refine wp_region_lit ?_
              refine seqS1 (a' := ⟨#[.agg #[.int .i64 b1.Lo, .int .i64 b1.Hi, .bool b1.Unknown], .pointer (some ⟨b4, 0, none⟩), .int .i64 0, .bool false, .pointer (some ⟨b4, 2, none⟩), .bool true, .bool true, .pointer (some ⟨b4, 0, none⟩), .int .i64 b1.Lo, .bool false, .bool false, .pointer (some ⟨b4, 1, none⟩), .int .i64 b1.Hi, .bool false, .bool false, .bool false, .bool false, .pointer (some ⟨b4, 0, none⟩), .int .i64 b1.Lo, .pointer (some ⟨b4, 1, none⟩), .int .i64 b1.Hi, .int .i64 (mn b1.Lo b1.Hi), .bool false, .bool false, .pointer (some ⟨b4, 0, none⟩), .int .i64 b1.Lo, .pointer (some ⟨b4, 1, none⟩), .int .i64 b1.Hi, .int .i64 (mx b1.Lo b1.Hi), .bool false, .bool false, .bool false, .pointer (some ⟨b4, 0, none⟩), .int .i64 b1.Lo, .pointer (some ⟨b4, 1, none⟩), .int .i64 b1.Hi, .bool false], []⟩) (by kernel_rfl) ?_
              refine wpList_nil ?_
              refine hK58 _ _ ?_
              refine wp_ret ?_
              refine hret _ _ ?_
              refine ends_still (v := Value.int .i64 0) (by kernel_rfl) (by kernel_rfl) ?_
              have HS69 := HS6.drop
              injection h with h
              subst h
              exact ⟨f, rfl, FM.le.refl _, HS69⟩
  · have c19 : ¬ (b1.Unknown = true) := c19
    refine seqRwI 5 (x := b1.Unknown) (v := false) (by kernel_rfl) (Bool.eq_false_iff.mpr c19) ?_
    refine seqRwI 6 (x := b1.Unknown) (v := false) (by kernel_rfl) (Bool.eq_false_iff.mpr c19) ?_
    refine seqS10 (a' := ⟨#[.agg #[.int .i64 b1.Lo, .int .i64 b1.Hi, .bool b1.Unknown], .pointer (some ⟨b4, 0, none⟩), .int .i64 0, .bool false, .pointer (some ⟨b4, 2, none⟩), .bool false, .bool false, undef, undef, undef, undef, undef, undef, undef, undef, .bool false, undef, undef, undef, undef, undef, undef, undef, undef, undef, undef, undef, undef, undef, undef, undef, undef, undef, undef, undef, undef, undef], []⟩) (by kernel_rfl) ?_
    refine wpList_nil ?_
    refine hK18 _ _ ?_
    refine condF (by kernel_rfl) ?_
    refine wp_seq_k (fun K42 hK43 => ?_)
    refine wp_region_lit ?_
    refine seqL1 (by kernel_rfl) ?_
    refine seqK rfl (does_run (run_load rfl Try.underlying56 rfl (by kernel_rfl : _ = Value.pointer (some ⟨b4, 0, none⟩)) (HS6.cell 0)) ?_)
    refine seqL1 (by kernel_rfl) ?_
    refine seqK rfl (does_run (run_load rfl Try.underlying56 rfl (by kernel_rfl : _ = Value.pointer (some ⟨b4, 1, none⟩)) (HS6.cell 1)) ?_)
    refine seqS3 (a' := ⟨#[.agg #[.int .i64 b1.Lo, .int .i64 b1.Hi, .bool b1.Unknown], .pointer (some ⟨b4, 0, none⟩), .int .i64 0, .bool false, .pointer (some ⟨b4, 2, none⟩), .bool false, .bool false, undef, undef, undef, undef, undef, undef, undef, undef, .bool false, undef, .pointer (some ⟨b4, 0, none⟩), .int .i64 b1.Lo, .pointer (some ⟨b4, 1, none⟩), .int .i64 b1.Hi, .int .i64 (mn b1.Lo b1.Hi), .bool (decide ((mn b1.Lo b1.Hi) < (-1152921504606846976))), .bool (decide ((mn b1.Lo b1.Hi) < (-1152921504606846976))), undef, undef, undef, undef, undef, undef, undef, undef, undef, undef, undef, undef, undef], []⟩) (by kernel_rfl) ?_
    have hq_ := ite_some h; clear h; rcases hq_ with ⟨c44, h⟩ | ⟨c44, h⟩
    · have c44 : (mn b1.Lo b1.Hi) < (-1152921504606846976) := c44
      refine seqRwI 22 (x := (decide ((mn b1.Lo b1.Hi) < (-1152921504606846976)))) (v := true) (by kernel_rfl) (decide_eq_true c44) ?_
      refine seqRwI 23 (x := (decide ((mn b1.Lo b1.Hi) < (-1152921504606846976)))) (v := true) (by kernel_rfl) (decide_eq_true c44) ?_
      refine seqS8 (a' := ⟨#[.agg #[.int .i64 b1.Lo, .int .i64 b1.Hi, .bool b1.Unknown], .pointer (some ⟨b4, 0, none⟩), .int .i64 0, .bool false, .pointer (some ⟨b4, 2, none⟩), .bool false, .bool false, undef, undef, undef, undef, undef, undef, undef, undef, .bool false, .bool true, .pointer (some ⟨b4, 0, none⟩), .int .i64 b1.Lo, .pointer (some ⟨b4, 1, none⟩), .int .i64 b1.Hi, .int .i64 (mn b1.Lo b1.Hi), .bool true, .bool true, undef, undef, undef, undef, undef, undef, .bool true, undef, undef, undef, undef, undef, undef], []⟩) (by kernel_rfl) ?_
      refine wpList_nil ?_
      refine hK43 _ _ ?_
      refine condT (by kernel_rfl) ?_
      refine wp_seq_k (fun K45 hK46 => ?_)
      refine wp_region_lit ?_
      refine seqS1 (a' := ⟨#[.agg #[.int .i64 b1.Lo, .int .i64 b1.Hi, .bool b1.Unknown], .pointer (some ⟨b4, 0, none⟩), .int .i64 4, .bool false, .pointer (some ⟨b4, 2, none⟩), .bool false, .bool false, undef, undef, undef, undef, undef, undef, undef, undef, .bool false, .bool true, .pointer (some ⟨b4, 0, none⟩), .int .i64 b1.Lo, .pointer (some ⟨b4, 1, none⟩), .int .i64 b1.Hi, .int .i64 (mn b1.Lo b1.Hi), .bool true, .bool true, undef, undef, undef, undef, undef, undef, .bool true, undef, undef, undef, undef, undef, undef], []⟩) (by kernel_rfl) ?_
      refine wpList_nil ?_
      refine hK46 _ _ ?_
      refine wp_ret ?_
      refine hr13 _ _ ?_
      refine hret _ _ ?_
      refine ends_still (v := Value.int .i64 4) (by kernel_rfl) (by kernel_rfl) ?_
      have HS66 := HS6.drop
      injection h with h
      subst h
      exact ⟨f, rfl, FM.le.refl _, HS66⟩
    · have c44 : ¬ ((mn b1.Lo b1.Hi) < (-1152921504606846976)) := c44
      refine seqRwI 22 (x := (decide ((mn b1.Lo b1.Hi) < (-1152921504606846976)))) (v := false) (by kernel_rfl) (decide_eq_false c44) ?_
      refine seqRwI 23 (x := (decide ((mn b1.Lo b1.Hi) < (-1152921504606846976)))) (v := false) (by kernel_rfl) (decide_eq_false c44) ?_
      refine seqL1 (by kernel_rfl) ?_
      refine seqG (by kernel_rfl) (does_run (run_load rfl Try.underlying56 rfl (by kernel_rfl : _ = Value.pointer (some ⟨b4, 0, none⟩)) (HS6.cell 0)) ?_)
      refine seqL1 (by kernel_rfl) ?_
      refine seqG (by kernel_rfl) (does_run (run_load rfl Try.underlying56 rfl (by kernel_rfl : _ = Value.pointer (some ⟨b4, 1, none⟩)) (HS6.cell 1)) ?_)
      refine seqS4 (a' := ⟨#[.agg #[.int .i64 b1.Lo, .int .i64 b1.Hi, .bool b1.Unknown], .pointer (some ⟨b4, 0, none⟩), .int .i64 0, .bool false, .pointer (some ⟨b4, 2, none⟩), .bool false, .bool false, undef, undef, undef, undef, undef, undef, undef, undef, .bool false, .bool (decide ((mx b1.Lo b1.Hi) > 1152921504606846976)), .pointer (some ⟨b4, 0, none⟩), .int .i64 b1.Lo, .pointer (some ⟨b4, 1, none⟩), .int .i64 b1.Hi, .int .i64 (mn b1.Lo b1.Hi), .bool false, .bool false, .pointer (some ⟨b4, 0, none⟩), .int .i64 b1.Lo, .pointer (some ⟨b4, 1, none⟩), .int .i64 b1.Hi, .int .i64 (mx b1.Lo b1.Hi), .bool (decide ((mx b1.Lo b1.Hi) > 1152921504606846976)), .bool (decide ((mx b1.Lo b1.Hi) > 1152921504606846976)), undef, undef, undef, undef, undef, undef], []⟩) (by kernel_rfl) ?_
      refine wpList_nil ?_
      refine hK43 _ _ ?_
      have hq_ := ite_some h; clear h; rcases hq_ with ⟨c48, h⟩ | ⟨c48, h⟩
      · have c48 : (mx b1.Lo b1.Hi) > 1152921504606846976 := c48
        refine wpRwI 16 (x := (decide ((mx b1.Lo b1.Hi) > 1152921504606846976))) (v := true) (by kernel_rfl) (decide_eq_true c48) ?_
        refine wpRwI 29 (x := (decide ((mx b1.Lo b1.Hi) > 1152921504606846976))) (v := true) (by kernel_rfl) (decide_eq_true c48) ?_
        refine wpRwI 30 (x := (decide ((mx b1.Lo b1.Hi) > 1152921504606846976))) (v := true) (by kernel_rfl) (decide_eq_true c48) ?_
        refine condT (by kernel_rfl) ?_
        refine wp_seq_k (fun K49 hK50 => ?_)
        refine wp_region_lit ?_
        refine seqS1 (a' := ⟨#[.agg #[.int .i64 b1.Lo, .int .i64 b1.Hi, .bool b1.Unknown], .pointer (some ⟨b4, 0, none⟩), .int .i64 4, .bool false, .pointer (some ⟨b4, 2, none⟩), .bool false, .bool false, undef, undef, undef, undef, undef, undef, undef, undef, .bool false, .bool true, .pointer (some ⟨b4, 0, none⟩), .int .i64 b1.Lo, .pointer (some ⟨b4, 1, none⟩), .int .i64 b1.Hi, .int .i64 (mn b1.Lo b1.Hi), .bool false, .bool false, .pointer (some ⟨b4, 0, none⟩), .int .i64 b1.Lo, .pointer (some ⟨b4, 1, none⟩), .int .i64 b1.Hi, .int .i64 (mx b1.Lo b1.Hi), .bool true, .bool true, undef, undef, undef, undef, undef, undef], []⟩) (by kernel_rfl) ?_
        refine wpList_nil ?_
        refine hK50 _ _ ?_
        refine wp_ret ?_
        refine hr13 _ _ ?_
        refine hret _ _ ?_
        refine ends_still (v := Value.int .i64 4) (by kernel_rfl) (by kernel_rfl) ?_
        have HS67 := HS6.drop
        injection h with h
        subst h
        exact ⟨f, rfl, FM.le.refl _, HS67⟩
      · have c48 : ¬ ((mx b1.Lo b1.Hi) > 1152921504606846976) := c48
        refine wpRwI 16 (x := (decide ((mx b1.Lo b1.Hi) > 1152921504606846976))) (v := false) (by kernel_rfl) (decide_eq_false c48) ?_
        refine wpRwI 29 (x := (decide ((mx b1.Lo b1.Hi) > 1152921504606846976))) (v := false) (by kernel_rfl) (decide_eq_false c48) ?_
        refine wpRwI 30 (x := (decide ((mx b1.Lo b1.Hi) > 1152921504606846976))) (v := false) (by kernel_rfl) (decide_eq_false c48) ?_
        refine condF (by kernel_rfl) ?_
        refine wp_seq_k (fun K51 hK52 => ?_)
        refine wp_region_lit ?_
        refine seqL1 (by kernel_rfl) ?_
        refine seqK rfl (does_run (run_load rfl Try.underlying56 rfl (by kernel_rfl : _ = Value.pointer (some ⟨b4, 0, none⟩)) (HS6.cell 0)) ?_)
        refine seqL1 (by kernel_rfl) ?_
        refine seqK rfl (does_run (run_load rfl Try.underlying56 rfl (by kernel_rfl : _ = Value.pointer (some ⟨b4, 1, none⟩)) (HS6.cell 1)) ?_)
        refine seqS2 (a' := ⟨#[.agg #[.int .i64 b1.Lo, .int .i64 b1.Hi, .bool b1.Unknown], .pointer (some ⟨b4, 0, none⟩), .int .i64 0, .bool false, .pointer (some ⟨b4, 2, none⟩), .bool false, .bool false, undef, undef, undef, undef, undef, undef, undef, undef, .bool false, .bool false, .pointer (some ⟨b4, 0, none⟩), .int .i64 b1.Lo, .pointer (some ⟨b4, 1, none⟩), .int .i64 b1.Hi, .int .i64 (mn b1.Lo b1.Hi), .bool false, .bool false, .pointer (some ⟨b4, 0, none⟩), .int .i64 b1.Lo, .pointer (some ⟨b4, 1, none⟩), .int .i64 b1.Hi, .int .i64 (mx b1.Lo b1.Hi), .bool false, .bool false, .bool (decide (b1.Lo > b1.Hi)), .pointer (some ⟨b4, 0, none⟩), .int .i64 b1.Lo, .pointer (some ⟨b4, 1, none⟩), .int .i64 b1.Hi, .bool (decide (b1.Lo > b1.Hi))], []⟩) (by kernel_rfl) ?_
        refine wpList_nil ?_
        refine hK52 _ _ ?_
        have hq_ := ite_some h; clear h; rcases hq_ with ⟨c54, h⟩ | ⟨c54, h⟩
        · have c54 : b1.Lo > b1.Hi := c54
          refine wpRwI 31 (x := (decide (b1.Lo > b1.Hi))) (v := true) (by kernel_rfl) (decide_eq_true c54) ?_
          refine wpRwI 36 (x := (decide (b1.Lo > b1.Hi))) (v := true) (by kernel_rfl) (decide_eq_true c54) ?_
          refine condT (by kernel_rfl) ?_
          refine wp_seq_k (fun K55 hK56 => ?_)
          refine wp_region_lit ?_
          refine seqS1 (a' := ⟨#[.agg #[.int .i64 b1.Lo, .int .i64 b1.Hi, .bool b1.Unknown], .pointer (some ⟨b4, 0, none⟩), .int .i64 11, .bool false, .pointer (some ⟨b4, 2, none⟩), .bool false, .bool false, undef, undef, undef, undef, undef, undef, undef, undef, .bool false, .bool false, .pointer (some ⟨b4, 0, none⟩), .int .i64 b1.Lo, .pointer (some ⟨b4, 1, none⟩), .int .i64 b1.Hi, .int .i64 (mn b1.Lo b1.Hi), .bool false, .bool false, .pointer (some ⟨b4, 0, none⟩), .int .i64 b1.Lo, .pointer (some ⟨b4, 1, none⟩), .int .i64 b1.Hi, .int .i64 (mx b1.Lo b1.Hi), .bool false, .bool false, .bool true, .pointer (some ⟨b4, 0, none⟩), .int .i64 b1.Lo, .pointer (some ⟨b4, 1, none⟩), .int .i64 b1.Hi, .bool true], []⟩) (by kernel_rfl) ?_
          refine wpList_nil ?_
          refine hK56 _ _ ?_
          refine wp_ret ?_
          refine hr13 _ _ ?_
          refine hret _ _ ?_
          refine ends_still (v := Value.int .i64 11) (by kernel_rfl) (by kernel_rfl) ?_
          have HS68 := HS6.drop
          injection h with h
          subst h
          exact ⟨f, rfl, FM.le.refl _, HS68⟩
        · have c54 : ¬ (b1.Lo > b1.Hi) := c54
          refine wpRwI 31 (x := (decide (b1.Lo > b1.Hi))) (v := false) (by kernel_rfl) (decide_eq_false c54) ?_
          refine wpRwI 36 (x := (decide (b1.Lo > b1.Hi))) (v := false) (by kernel_rfl) (decide_eq_false c54) ?_
          refine condF (by kernel_rfl) ?_
          refine wp_skip ?_
          refine hn12 _ _ ?_
          refine hK9 _ _ ?_
          refine wp_seq_k (fun K59 hK60 => ?_)
          refine wp_region_lit ?_
          refine seqS1 (a' := ⟨#[.agg #[.int .i64 b1.Lo, .int .i64 b1.Hi, .bool b1.Unknown], .pointer (some ⟨b4, 0, none⟩), .int .i64 0, .bool false, .pointer (some ⟨b4, 2, none⟩), .bool false, .bool false, undef, undef, undef, undef, undef, undef, undef, undef, .bool false, .bool false, .pointer (some ⟨b4, 0, none⟩), .int .i64 b1.Lo, .pointer (some ⟨b4, 1, none⟩), .int .i64 b1.Hi, .int .i64 (mn b1.Lo b1.Hi), .bool false, .bool false, .pointer (some ⟨b4, 0, none⟩), .int .i64 b1.Lo, .pointer (some ⟨b4, 1, none⟩), .int .i64 b1.Hi, .int .i64 (mx b1.Lo b1.Hi), .bool false, .bool false, .bool false, .pointer (some ⟨b4, 0, none⟩), .int .i64 b1.Lo, .pointer (some ⟨b4, 1, none⟩), .int .i64 b1.Hi, .bool false], []⟩) (by kernel_rfl) ?_
          refine wpList_nil ?_
          refine hK60 _ _ ?_
          refine wp_ret ?_
          refine hret _ _ ?_
          refine ends_still (v := Value.int .i64 0) (by kernel_rfl) (by kernel_rfl) ?_
          have HS70 := HS6.drop
          injection h with h
          subst h
          exact ⟨f, rfl, FM.le.refl _, HS70⟩

set_option maxRecDepth 100000 in
set_option maxHeartbeats 4000000 in
theorem bound_None_Part.calls (k : Nat)   {t w : World} {f : FM} {H : List Seg} (HS : St t w f (H)) (r1 : S_Bound) (h : bound_None_Part k = some r1) :
    Calls Try.prog 84 #[] w (fun e w' => ∃ (g : FM), e = .returned (Value.agg #[.int .i64 r1.Lo, .int .i64 r1.Hi, .bool r1.Unknown]) ∧ FM.le f g ∧ St t w' g (H)) := by
  unfold bound_None_Part at h
  refine enter Try.func84 rfl (tm := #[undef, undef]) (by kernel_rfl) ?_
  intro B hret hnor hnp
  refine wp_seq_k (fun K1 hK2 => ?_)
  refine wp_region_lit ?_
  refine seqK rfl (does_alloc (z := Value.agg #[.int .i64 0, .int .i64 0, .bool false]) (cs := #[.int .i64 0, .int .i64 0, .bool false]) rfl (by kernel_rfl) rfl HS ?_)
  intro b3 W4 HS5
  refine wpList_nil ?_
  refine hK2 _ _ ?_
  refine wp_seq_k (fun K7 hK8 => ?_)
  refine wp_region_lit ?_
  refine seqL1 (by kernel_rfl) ?_
  refine seqK rfl (does_store (n := 3) (vs := [.int .i64 0, .int .i64 0, .bool true]) (cs' := #[.int .i64 0, .int .i64 0, .bool true]) rfl (by kernel_rfl) (by kernel_rfl : _ = Value.pointer (some ⟨b3, 0, none⟩)) (by kernel_rfl : _ = Value.agg #[.int .i64 0, .int .i64 0, .bool true]) rfl rfl (by intro u_ hu_; simp only [List.mem_cons, List.not_mem_nil, or_false] at hu_; rcases hu_ with rfl | rfl | rfl <;> rfl) HS5 (Nat.le_of_ble_eq_true rfl) (by kernel_rfl) ?_)
  intro W9 HS10
  refine wpList_nil ?_
  refine hK8 _ _ ?_
  refine wp_ret ?_
  refine hret _ _ ?_
  refine ends (v := Value.agg #[.int .i64 0, .int .i64 0, .bool true]) (results1 (q1 := .cell 0 58) (by kernel_rfl) (resN (n := 3) (cs := [.int .i64 0, .int .i64 0, .bool true]) (by kernel_rfl : _ = Value.pointer (some ⟨b3, 0, none⟩)) Try.underlying58 rfl (by kernel_rfl) rfl (HS10.cells 0 3 _ rfl))) (by kernel_rfl) ?_
  have HS11 := HS10.drop
  injection h with h
  subst h
  exact ⟨f, rfl, FM.le.refl _, HS11⟩

set_option maxRecDepth 100000 in
set_option maxHeartbeats 4000000 in
theorem bound_Norm_Part.calls (k : Nat)  (b1 : S_Bound) {t w : World} {f : FM} {H : List Seg} (HS : St t w f (H)) (r1 : S_Bound) (h : bound_Norm_Part k b1 = some r1) :
    Calls Try.prog 47 #[.agg #[.int .i64 b1.Lo, .int .i64 b1.Hi, .bool b1.Unknown]] w (fun e w' => ∃ (g : FM), e = .returned (Value.agg #[.int .i64 r1.Lo, .int .i64 r1.Hi, .bool r1.Unknown]) ∧ FM.le f g ∧ St t w' g (H)) := by
  unfold bound_Norm_Part at h
  refine enter Try.func47 rfl (tm := #[.agg #[.int .i64 b1.Lo, .int .i64 b1.Hi, .bool b1.Unknown], undef, undef, undef, undef, undef, undef, undef]) (by kernel_rfl) ?_
  intro B hret hnor hnp
  refine wp_seq_k (fun K2 hK3 => ?_)
  refine wp_region_lit ?_
  refine seqK rfl (does_box (cs := #[.int .i64 b1.Lo, .int .i64 b1.Hi, .bool b1.Unknown]) rfl (by kernel_rfl : _ = Value.agg #[.int .i64 b1.Lo, .int .i64 b1.Hi, .bool b1.Unknown]) rfl HS ?_)
  intro b4 W5 HS6
  refine seqK rfl (does_alloc (z := Value.agg #[.int .i64 0, .int .i64 0, .bool false]) (cs := #[.int .i64 0, .int .i64 0, .bool false]) rfl (by kernel_rfl) rfl HS6 ?_)
  intro b8 W9 HS10
  refine wpList_nil ?_
  refine hK3 _ _ ?_
  refine wp_seq_k (fun K12 hK13 => ?_)
  refine wp_seq_k (fun K14 hK15 => ?_)
  refine wp_region_lit ?_
  refine seqK rfl (does_run (run_loadN (n := 3) rfl Try.underlying58 rfl (by kernel_rfl) (by kernel_rfl : _ = Value.pointer (some ⟨b4, 0, none⟩)) (cs := [.int .i64 b1.Lo, .int .i64 b1.Hi, .bool b1.Unknown]) rfl (HS10.u1.cells 0 3 _ rfl)) ?_)
  have hq_ := bind_some h; clear h; obtain ⟨vt16, hc17, h⟩ := hq_
  refine seqK rfl (does_call (f := 83) (args := #[.agg #[.int .i64 b1.Lo, .int .i64 b1.Hi, .bool b1.Unknown]]) (by kernel_rfl) (bound_Check_Part.calls k b1 HS10 vt16 hc17) ?_)
  rintro _ W20 ⟨f18, rfl, L19, HS21⟩
  refine ⟨_, rfl, ?_⟩
  refine seqS1 (a' := ⟨#[.agg #[.int .i64 b1.Lo, .int .i64 b1.Hi, .bool b1.Unknown], .pointer (some ⟨b4, 0, none⟩), .pointer (some ⟨b8, 0, none⟩), .agg #[.int .i64 b1.Lo, .int .i64 b1.Hi, .bool b1.Unknown], .int .i64 vt16, .bool (vt16 != 0), undef, undef], []⟩) (by kernel_rfl) ?_
  refine wpList_nil ?_
  refine hK15 _ _ ?_
  have hq_ := ite_some h; clear h; rcases hq_ with ⟨c23, h⟩ | ⟨c23, h⟩
  · have c23 : vt16 ≠ 0 := c23
    refine wpRwI 5 (x := (vt16 != 0)) (v := true) (by kernel_rfl) (bne_iff_ne.mpr c23) ?_
    refine condT (by kernel_rfl) ?_
    refine wp_seq_k (fun K24 hK25 => ?_)
    refine wp_region_lit ?_
    have hq_ := bind_some h; clear h; obtain ⟨vt26, hc27, h⟩ := hq_
    refine seqK rfl (does_call (f := 84) (args := #[]) (by kernel_rfl) (bound_None_Part.calls k  HS21 vt26 hc27) ?_)
    rintro _ W30 ⟨f28, rfl, L29, HS31⟩
    refine ⟨_, rfl, ?_⟩
    refine seqK rfl (does_store (n := 3) (vs := [.int .i64 vt26.Lo, .int .i64 vt26.Hi, .bool vt26.Unknown]) (cs' := #[.int .i64 vt26.Lo, .int .i64 vt26.Hi, .bool vt26.Unknown]) rfl (by kernel_rfl) (by kernel_rfl : _ = Value.pointer (some ⟨b8, 0, none⟩)) (by kernel_rfl : _ = Value.agg #[.int .i64 vt26.Lo, .int .i64 vt26.Hi, .bool vt26.Unknown]) rfl rfl (by intro u_ hu_; simp only [List.mem_cons, List.not_mem_nil, or_false] at hu_; rcases hu_ with rfl | rfl | rfl <;> rfl) HS31 (Nat.le_of_ble_eq_true rfl) (by kernel_rfl) ?_)
    intro W32 HS33
    refine wpList_nil ?_
    refine hK25 _ _ ?_
    refine wp_ret ?_
    refine hret _ _ ?_
    refine ends (v := Value.agg #[.int .i64 vt26.Lo, .int .i64 vt26.Hi, .bool vt26.Unknown]) (results1 (q1 := .cell 2 58) (by kernel_rfl) (resN (n := 3) (cs := [.int .i64 vt26.Lo, .int .i64 vt26.Hi, .bool vt26.Unknown]) (by kernel_rfl : _ = Value.pointer (some ⟨b8, 0, none⟩)) Try.underlying58 rfl (by kernel_rfl) rfl (HS33.cells 0 3 _ rfl))) (by kernel_rfl) ?_
    have HS38 := HS33.drop
    have HS39 := HS38.drop
    injection h with h
    subst h
    exact ⟨f28, rfl, (L19.trans L29), HS39⟩
  · have c23 : ¬ (vt16 ≠ 0) := c23
    refine wpRwI 5 (x := (vt16 != 0)) (v := false) (by kernel_rfl) (bne_eq_false_iff_eq.mpr (Decidable.of_not_not c23)) ?_
    refine condF (by kernel_rfl) ?_
    refine wp_skip ?_
    refine hK13 _ _ ?_
    refine wp_seq_k (fun K34 hK35 => ?_)
    refine wp_region_lit ?_
    refine seqK rfl (does_run (run_loadN (n := 3) rfl Try.underlying58 rfl (by kernel_rfl) (by kernel_rfl : _ = Value.pointer (some ⟨b4, 0, none⟩)) (cs := [.int .i64 b1.Lo, .int .i64 b1.Hi, .bool b1.Unknown]) rfl (HS21.u1.cells 0 3 _ rfl)) ?_)
    refine seqK rfl (does_store (n := 3) (vs := [.int .i64 b1.Lo, .int .i64 b1.Hi, .bool b1.Unknown]) (cs' := #[.int .i64 b1.Lo, .int .i64 b1.Hi, .bool b1.Unknown]) rfl (by kernel_rfl) (by kernel_rfl : _ = Value.pointer (some ⟨b8, 0, none⟩)) (by kernel_rfl : _ = Value.agg #[.int .i64 b1.Lo, .int .i64 b1.Hi, .bool b1.Unknown]) rfl rfl (by intro u_ hu_; simp only [List.mem_cons, List.not_mem_nil, or_false] at hu_; rcases hu_ with rfl | rfl | rfl <;> rfl) HS21 (Nat.le_of_ble_eq_true rfl) (by kernel_rfl) ?_)
    intro W36 HS37
    refine wpList_nil ?_
    refine hK35 _ _ ?_
    refine wp_ret ?_
    refine hret _ _ ?_
    refine ends (v := Value.agg #[.int .i64 b1.Lo, .int .i64 b1.Hi, .bool b1.Unknown]) (results1 (q1 := .cell 2 58) (by kernel_rfl) (resN (n := 3) (cs := [.int .i64 b1.Lo, .int .i64 b1.Hi, .bool b1.Unknown]) (by kernel_rfl : _ = Value.pointer (some ⟨b8, 0, none⟩)) Try.underlying58 rfl (by kernel_rfl) rfl (HS37.cells 0 3 _ rfl))) (by kernel_rfl) ?_
    have HS40 := HS37.drop
    have HS41 := HS40.drop
    injection h with h
    subst h
    exact ⟨f18, rfl, L19, HS41⟩

set_option maxRecDepth 100000 in
set_option maxHeartbeats 4000000 in
theorem bound_Of_Part.calls (k : Nat)  (lo1 : Int) (hi2 : Int) {t w : World} {f : FM} {H : List Seg} (HS : St t w f (H)) (r1 : S_Bound) (h : bound_Of_Part k lo1 hi2 = some r1) :
    Calls Try.prog 24 #[.int .i64 lo1, .int .i64 hi2] w (fun e w' => ∃ (g : FM), e = .returned (Value.agg #[.int .i64 r1.Lo, .int .i64 r1.Hi, .bool r1.Unknown]) ∧ FM.le f g ∧ St t w' g (H)) := by
  unfold bound_Of_Part at h
  refine enter Try.func24 rfl (tm := #[.int .i64 lo1, .int .i64 hi2, undef, undef, undef, undef, undef, undef, undef]) (by kernel_rfl) ?_
  intro B hret hnor hnp
  refine wp_seq_k (fun K3 hK4 => ?_)
  refine wp_region_lit ?_
  refine seqK rfl (does_alloc (z := Value.agg #[.int .i64 0, .int .i64 0, .bool false]) (cs := #[.int .i64 0, .int .i64 0, .bool false]) rfl (by kernel_rfl) rfl HS ?_)
  intro b5 W6 HS7
  refine wpList_nil ?_
  refine hK4 _ _ ?_
  refine wp_seq_k (fun K9 hK10 => ?_)
  refine wp_region_lit ?_
  have hq_ := bind_some h; clear h; obtain ⟨vt11, hc12, h⟩ := hq_
  refine seqL3 (by kernel_rfl) ?_
  refine seqK rfl (does_call (f := 47) (args := #[.agg #[.int .i64 lo1, .int .i64 hi2, .bool false]]) (by kernel_rfl) (bound_Norm_Part.calls k (⟨lo1, hi2, false⟩ : S_Bound) HS7 vt11 hc12) ?_)
  rintro _ W15 ⟨f13, rfl, L14, HS16⟩
  refine ⟨_, rfl, ?_⟩
  refine seqK rfl (does_store (n := 3) (vs := [.int .i64 vt11.Lo, .int .i64 vt11.Hi, .bool vt11.Unknown]) (cs' := #[.int .i64 vt11.Lo, .int .i64 vt11.Hi, .bool vt11.Unknown]) rfl (by kernel_rfl) (by kernel_rfl : _ = Value.pointer (some ⟨b5, 0, none⟩)) (by kernel_rfl : _ = Value.agg #[.int .i64 vt11.Lo, .int .i64 vt11.Hi, .bool vt11.Unknown]) rfl rfl (by intro u_ hu_; simp only [List.mem_cons, List.not_mem_nil, or_false] at hu_; rcases hu_ with rfl | rfl | rfl <;> rfl) HS16 (Nat.le_of_ble_eq_true rfl) (by kernel_rfl) ?_)
  intro W17 HS18
  refine wpList_nil ?_
  refine hK10 _ _ ?_
  refine wp_ret ?_
  refine hret _ _ ?_
  refine ends (v := Value.agg #[.int .i64 vt11.Lo, .int .i64 vt11.Hi, .bool vt11.Unknown]) (results1 (q1 := .cell 4 58) (by kernel_rfl) (resN (n := 3) (cs := [.int .i64 vt11.Lo, .int .i64 vt11.Hi, .bool vt11.Unknown]) (by kernel_rfl : _ = Value.pointer (some ⟨b5, 0, none⟩)) Try.underlying58 rfl (by kernel_rfl) rfl (HS18.cells 0 3 _ rfl))) (by kernel_rfl) ?_
  have HS19 := HS18.drop
  injection h with h
  subst h
  exact ⟨f13, rfl, L14, HS19⟩

set_option maxRecDepth 100000 in
set_option maxHeartbeats 4000000 in
theorem bits_Mul64.calls (k : Nat)  (x1 : Int) (y2 : Int) {t w : World} {f : FM} {H : List Seg} (HS : St t w f (H)) (r1 : Int) (r2 : Int) (h : bits_Mul64 k x1 y2 = some (r1, r2)) :
    Calls Try.prog 97 #[.int .u64 x1, .int .u64 y2] w (fun e w' => ∃ (g : FM), e = .returned (Value.tuple #[.int .u64 r1, .int .u64 r2]) ∧ FM.le f g ∧ St t w' g (H)) := by
  unfold bits_Mul64 at h
  refine enter Try.func97 rfl (tm := #[.int .u64 x1, .int .u64 y2, undef, undef, undef, undef, undef, undef, undef, undef, undef, undef, undef, undef, undef, undef, undef, undef, undef, undef, undef, undef, undef, undef, undef, undef, undef, undef, undef, undef, undef, undef, undef, undef, undef, undef, undef, undef, undef, undef, undef, undef, undef, undef, undef, undef, undef, undef, undef, undef, undef]) (by kernel_rfl) ?_
  intro B hret hnor hnp
  refine wp_seq_k (fun K3 hK4 => ?_)
  refine wp_region_lit ?_
  refine seqS2 (a' := ⟨#[.int .u64 x1, .int .u64 y2, undef, undef, .int .u64 0, .int .u64 0, undef, undef, undef, undef, undef, undef, undef, undef, undef, undef, undef, undef, undef, undef, undef, undef, undef, undef, undef, undef, undef, undef, undef, undef, undef, undef, undef, undef, undef, undef, undef, undef, undef, undef, undef, undef, undef, undef, undef, undef, undef, undef, undef, undef, undef], []⟩) (by kernel_rfl) ?_
  refine wpList_nil ?_
  refine hK4 _ _ ?_
  refine wp_seq_k (fun K5 hK6 => ?_)
  refine wp_region_lit ?_
  refine seqS3 (a' := ⟨#[.int .u64 x1, .int .u64 y2, undef, undef, .int .u64 0, .int .u64 0, .int .u64 (Go.bits .and .u64 x1 4294967295), undef, undef, undef, undef, undef, undef, undef, .int .u64 x1, .int .u64 (Go.bits .and .u64 x1 4294967295), undef, undef, undef, undef, undef, undef, undef, undef, undef, undef, undef, undef, undef, undef, undef, undef, undef, undef, undef, undef, undef, undef, undef, undef, undef, undef, undef, undef, undef, undef, undef, undef, undef, undef, undef], []⟩) (by kernel_rfl) ?_
  refine wpList_nil ?_
  refine hK6 _ _ ?_
  refine wp_seq_k (fun K7 hK8 => ?_)
  refine wp_region_lit ?_
  refine seqS3 (a' := ⟨#[.int .u64 x1, .int .u64 y2, undef, undef, .int .u64 0, .int .u64 0, .int .u64 (Go.bits .and .u64 x1 4294967295), .int .u64 (shr x1 32), undef, undef, undef, undef, undef, undef, .int .u64 x1, .int .u64 (Go.bits .and .u64 x1 4294967295), .int .u64 x1, .int .u64 (shr x1 32), undef, undef, undef, undef, undef, undef, undef, undef, undef, undef, undef, undef, undef, undef, undef, undef, undef, undef, undef, undef, undef, undef, undef, undef, undef, undef, undef, undef, undef, undef, undef, undef, undef], []⟩) (by kernel_rfl) ?_
  refine wpList_nil ?_
  refine hK8 _ _ ?_
  refine wp_seq_k (fun K9 hK10 => ?_)
  refine wp_region_lit ?_
  refine seqS3 (a' := ⟨#[.int .u64 x1, .int .u64 y2, undef, undef, .int .u64 0, .int .u64 0, .int .u64 (Go.bits .and .u64 x1 4294967295), .int .u64 (shr x1 32), .int .u64 (Go.bits .and .u64 y2 4294967295), undef, undef, undef, undef, undef, .int .u64 x1, .int .u64 (Go.bits .and .u64 x1 4294967295), .int .u64 x1, .int .u64 (shr x1 32), .int .u64 y2, .int .u64 (Go.bits .and .u64 y2 4294967295), undef, undef, undef, undef, undef, undef, undef, undef, undef, undef, undef, undef, undef, undef, undef, undef, undef, undef, undef, undef, undef, undef, undef, undef, undef, undef, undef, undef, undef, undef, undef], []⟩) (by kernel_rfl) ?_
  refine wpList_nil ?_
  refine hK10 _ _ ?_
  refine wp_seq_k (fun K11 hK12 => ?_)
  refine wp_region_lit ?_
  refine seqS3 (a' := ⟨#[.int .u64 x1, .int .u64 y2, undef, undef, .int .u64 0, .int .u64 0, .int .u64 (Go.bits .and .u64 x1 4294967295), .int .u64 (shr x1 32), .int .u64 (Go.bits .and .u64 y2 4294967295), .int .u64 (shr y2 32), undef, undef, undef, undef, .int .u64 x1, .int .u64 (Go.bits .and .u64 x1 4294967295), .int .u64 x1, .int .u64 (shr x1 32), .int .u64 y2, .int .u64 (Go.bits .and .u64 y2 4294967295), .int .u64 y2, .int .u64 (shr y2 32), undef, undef, undef, undef, undef, undef, undef, undef, undef, undef, undef, undef, undef, undef, undef, undef, undef, undef, undef, undef, undef, undef, undef, undef, undef, undef, undef, undef, undef], []⟩) (by kernel_rfl) ?_
  refine wpList_nil ?_
  refine hK12 _ _ ?_
  refine wp_seq_k (fun K13 hK14 => ?_)
  refine wp_region_lit ?_
  refine seqS4 (a' := ⟨#[.int .u64 x1, .int .u64 y2, undef, undef, .int .u64 0, .int .u64 0, .int .u64 (Go.bits .and .u64 x1 4294967295), .int .u64 (shr x1 32), .int .u64 (Go.bits .and .u64 y2 4294967295), .int .u64 (shr y2 32), .int .u64 (u64 ((Go.bits .and .u64 x1 4294967295) * (Go.bits .and .u64 y2 4294967295))), undef, undef, undef, .int .u64 x1, .int .u64 (Go.bits .and .u64 x1 4294967295), .int .u64 x1, .int .u64 (shr x1 32), .int .u64 y2, .int .u64 (Go.bits .and .u64 y2 4294967295), .int .u64 y2, .int .u64 (shr y2 32), .int .u64 (Go.bits .and .u64 x1 4294967295), .int .u64 (Go.bits .and .u64 y2 4294967295), .int .u64 (u64 ((Go.bits .and .u64 x1 4294967295) * (Go.bits .and .u64 y2 4294967295))), undef, undef, undef, undef, undef, undef, undef, undef, undef, undef, undef, undef, undef, undef, undef, undef, undef, undef, undef, undef, undef, undef, undef, undef, undef, undef], []⟩) (by kernel_rfl) ?_
  refine wpList_nil ?_
  refine hK14 _ _ ?_
  refine wp_seq_k (fun K15 hK16 => ?_)
  refine wp_region_lit ?_
  refine seqS7 (a' := ⟨#[.int .u64 x1, .int .u64 y2, undef, undef, .int .u64 0, .int .u64 0, .int .u64 (Go.bits .and .u64 x1 4294967295), .int .u64 (shr x1 32), .int .u64 (Go.bits .and .u64 y2 4294967295), .int .u64 (shr y2 32), .int .u64 (u64 ((Go.bits .and .u64 x1 4294967295) * (Go.bits .and .u64 y2 4294967295))), .int .u64 (u64 ((u64 ((shr x1 32) * (Go.bits .and .u64 y2 4294967295))) + (shr (u64 ((Go.bits .and .u64 x1 4294967295) * (Go.bits .and .u64 y2 4294967295))) 32))), undef, undef, .int .u64 x1, .int .u64 (Go.bits .and .u64 x1 4294967295), .int .u64 x1, .int .u64 (shr x1 32), .int .u64 y2, .int .u64 (Go.bits .and .u64 y2 4294967295), .int .u64 y2, .int .u64 (shr y2 32), .int .u64 (Go.bits .and .u64 x1 4294967295), .int .u64 (Go.bits .and .u64 y2 4294967295), .int .u64 (u64 ((Go.bits .and .u64 x1 4294967295) * (Go.bits .and .u64 y2 4294967295))), .int .u64 (shr x1 32), .int .u64 (Go.bits .and .u64 y2 4294967295), .int .u64 (u64 ((shr x1 32) * (Go.bits .and .u64 y2 4294967295))), .int .u64 (u64 ((Go.bits .and .u64 x1 4294967295) * (Go.bits .and .u64 y2 4294967295))), .int .u64 (shr (u64 ((Go.bits .and .u64 x1 4294967295) * (Go.bits .and .u64 y2 4294967295))) 32), .int .u64 (u64 ((u64 ((shr x1 32) * (Go.bits .and .u64 y2 4294967295))) + (shr (u64 ((Go.bits .and .u64 x1 4294967295) * (Go.bits .and .u64 y2 4294967295))) 32))), undef, undef, undef, undef, undef, undef, undef, undef, undef, undef, undef, undef, undef, undef, undef, undef, undef, undef, undef, undef], []⟩) (by kernel_rfl) ?_
  refine wpList_nil ?_
  refine hK16 _ _ ?_
  refine wp_seq_k (fun K17 hK18 => ?_)
  refine wp_region_lit ?_
  refine seqS3 (a' := ⟨#[.int .u64 x1, .int .u64 y2, undef, undef, .int .u64 0, .int .u64 0, .int .u64 (Go.bits .and .u64 x1 4294967295), .int .u64 (shr x1 32), .int .u64 (Go.bits .and .u64 y2 4294967295), .int .u64 (shr y2 32), .int .u64 (u64 ((Go.bits .and .u64 x1 4294967295) * (Go.bits .and .u64 y2 4294967295))), .int .u64 (u64 ((u64 ((shr x1 32) * (Go.bits .and .u64 y2 4294967295))) + (shr (u64 ((Go.bits .and .u64 x1 4294967295) * (Go.bits .and .u64 y2 4294967295))) 32))), .int .u64 (Go.bits .and .u64 (u64 ((u64 ((shr x1 32) * (Go.bits .and .u64 y2 4294967295))) + (shr (u64 ((Go.bits .and .u64 x1 4294967295) * (Go.bits .and .u64 y2 4294967295))) 32))) 4294967295), undef, .int .u64 x1, .int .u64 (Go.bits .and .u64 x1 4294967295), .int .u64 x1, .int .u64 (shr x1 32), .int .u64 y2, .int .u64 (Go.bits .and .u64 y2 4294967295), .int .u64 y2, .int .u64 (shr y2 32), .int .u64 (Go.bits .and .u64 x1 4294967295), .int .u64 (Go.bits .and .u64 y2 4294967295), .int .u64 (u64 ((Go.bits .and .u64 x1 4294967295) * (Go.bits .and .u64 y2 4294967295))), .int .u64 (shr x1 32), .int .u64 (Go.bits .and .u64 y2 4294967295), .int .u64 (u64 ((shr x1 32) * (Go.bits .and .u64 y2 4294967295))), .int .u64 (u64 ((Go.bits .and .u64 x1 4294967295) * (Go.bits .and .u64 y2 4294967295))), .int .u64 (shr (u64 ((Go.bits .and .u64 x1 4294967295) * (Go.bits .and .u64 y2 4294967295))) 32), .int .u64 (u64 ((u64 ((shr x1 32) * (Go.bits .and .u64 y2 4294967295))) + (shr (u64 ((Go.bits .and .u64 x1 4294967295) * (Go.bits .and .u64 y2 4294967295))) 32))), .int .u64 (u64 ((u64 ((shr x1 32) * (Go.bits .and .u64 y2 4294967295))) + (shr (u64 ((Go.bits .and .u64 x1 4294967295) * (Go.bits .and .u64 y2 4294967295))) 32))), .int .u64 (Go.bits .and .u64 (u64 ((u64 ((shr x1 32) * (Go.bits .and .u64 y2 4294967295))) + (shr (u64 ((Go.bits .and .u64 x1 4294967295) * (Go.bits .and .u64 y2 4294967295))) 32))) 4294967295), undef, undef, undef, undef, undef, undef, undef, undef, undef, undef, undef, undef, undef, undef, undef, undef, undef, undef], []⟩) (by kernel_rfl) ?_
  refine wpList_nil ?_
  refine hK18 _ _ ?_
  refine wp_seq_k (fun K19 hK20 => ?_)
  refine wp_region_lit ?_
  refine seqS3 (a' := ⟨#[.int .u64 x1, .int .u64 y2, undef, undef, .int .u64 0, .int .u64 0, .int .u64 (Go.bits .and .u64 x1 4294967295), .int .u64 (shr x1 32), .int .u64 (Go.bits .and .u64 y2 4294967295), .int .u64 (shr y2 32), .int .u64 (u64 ((Go.bits .and .u64 x1 4294967295) * (Go.bits .and .u64 y2 4294967295))), .int .u64 (u64 ((u64 ((shr x1 32) * (Go.bits .and .u64 y2 4294967295))) + (shr (u64 ((Go.bits .and .u64 x1 4294967295) * (Go.bits .and .u64 y2 4294967295))) 32))), .int .u64 (Go.bits .and .u64 (u64 ((u64 ((shr x1 32) * (Go.bits .and .u64 y2 4294967295))) + (shr (u64 ((Go.bits .and .u64 x1 4294967295) * (Go.bits .and .u64 y2 4294967295))) 32))) 4294967295), .int .u64 (shr (u64 ((u64 ((shr x1 32) * (Go.bits .and .u64 y2 4294967295))) + (shr (u64 ((Go.bits .and .u64 x1 4294967295) * (Go.bits .and .u64 y2 4294967295))) 32))) 32), .int .u64 x1, .int .u64 (Go.bits .and .u64 x1 4294967295), .int .u64 x1, .int .u64 (shr x1 32), .int .u64 y2, .int .u64 (Go.bits .and .u64 y2 4294967295), .int .u64 y2, .int .u64 (shr y2 32), .int .u64 (Go.bits .and .u64 x1 4294967295), .int .u64 (Go.bits .and .u64 y2 4294967295), .int .u64 (u64 ((Go.bits .and .u64 x1 4294967295) * (Go.bits .and .u64 y2 4294967295))), .int .u64 (shr x1 32), .int .u64 (Go.bits .and .u64 y2 4294967295), .int .u64 (u64 ((shr x1 32) * (Go.bits .and .u64 y2 4294967295))), .int .u64 (u64 ((Go.bits .and .u64 x1 4294967295) * (Go.bits .and .u64 y2 4294967295))), .int .u64 (shr (u64 ((Go.bits .and .u64 x1 4294967295) * (Go.bits .and .u64 y2 4294967295))) 32), .int .u64 (u64 ((u64 ((shr x1 32) * (Go.bits .and .u64 y2 4294967295))) + (shr (u64 ((Go.bits .and .u64 x1 4294967295) * (Go.bits .and .u64 y2 4294967295))) 32))), .int .u64 (u64 ((u64 ((shr x1 32) * (Go.bits .and .u64 y2 4294967295))) + (shr (u64 ((Go.bits .and .u64 x1 4294967295) * (Go.bits .and .u64 y2 4294967295))) 32))), .int .u64 (Go.bits .and .u64 (u64 ((u64 ((shr x1 32) * (Go.bits .and .u64 y2 4294967295))) + (shr (u64 ((Go.bits .and .u64 x1 4294967295) * (Go.bits .and .u64 y2 4294967295))) 32))) 4294967295), .int .u64 (u64 ((u64 ((shr x1 32) * (Go.bits .and .u64 y2 4294967295))) + (shr (u64 ((Go.bits .and .u64 x1 4294967295) * (Go.bits .and .u64 y2 4294967295))) 32))), .int .u64 (shr (u64 ((u64 ((shr x1 32) * (Go.bits .and .u64 y2 4294967295))) + (shr (u64 ((Go.bits .and .u64 x1 4294967295) * (Go.bits .and .u64 y2 4294967295))) 32))) 32), undef, undef, undef, undef, undef, undef, undef, undef, undef, undef, undef, undef, undef, undef, undef, undef], []⟩) (by kernel_rfl) ?_
  refine wpList_nil ?_
  refine hK20 _ _ ?_
  refine wp_seq_k (fun K21 hK22 => ?_)
  refine wp_region_lit ?_
  refine seqS6 (a' := ⟨#[.int .u64 x1, .int .u64 y2, undef, undef, .int .u64 0, .int .u64 0, .int .u64 (Go.bits .and .u64 x1 4294967295), .int .u64 (shr x1 32), .int .u64 (Go.bits .and .u64 y2 4294967295), .int .u64 (shr y2 32), .int .u64 (u64 ((Go.bits .and .u64 x1 4294967295) * (Go.bits .and .u64 y2 4294967295))), .int .u64 (u64 ((u64 ((shr x1 32) * (Go.bits .and .u64 y2 4294967295))) + (shr (u64 ((Go.bits .and .u64 x1 4294967295) * (Go.bits .and .u64 y2 4294967295))) 32))), .int .u64 (u64 ((Go.bits .and .u64 (u64 ((u64 ((shr x1 32) * (Go.bits .and .u64 y2 4294967295))) + (shr (u64 ((Go.bits .and .u64 x1 4294967295) * (Go.bits .and .u64 y2 4294967295))) 32))) 4294967295) + (u64 ((Go.bits .and .u64 x1 4294967295) * (shr y2 32))))), .int .u64 (shr (u64 ((u64 ((shr x1 32) * (Go.bits .and .u64 y2 4294967295))) + (shr (u64 ((Go.bits .and .u64 x1 4294967295) * (Go.bits .and .u64 y2 4294967295))) 32))) 32), .int .u64 x1, .int .u64 (Go.bits .and .u64 x1 4294967295), .int .u64 x1, .int .u64 (shr x1 32), .int .u64 y2, .int .u64 (Go.bits .and .u64 y2 4294967295), .int .u64 y2, .int .u64 (shr y2 32), .int .u64 (Go.bits .and .u64 x1 4294967295), .int .u64 (Go.bits .and .u64 y2 4294967295), .int .u64 (u64 ((Go.bits .and .u64 x1 4294967295) * (Go.bits .and .u64 y2 4294967295))), .int .u64 (shr x1 32), .int .u64 (Go.bits .and .u64 y2 4294967295), .int .u64 (u64 ((shr x1 32) * (Go.bits .and .u64 y2 4294967295))), .int .u64 (u64 ((Go.bits .and .u64 x1 4294967295) * (Go.bits .and .u64 y2 4294967295))), .int .u64 (shr (u64 ((Go.bits .and .u64 x1 4294967295) * (Go.bits .and .u64 y2 4294967295))) 32), .int .u64 (u64 ((u64 ((shr x1 32) * (Go.bits .and .u64 y2 4294967295))) + (shr (u64 ((Go.bits .and .u64 x1 4294967295) * (Go.bits .and .u64 y2 4294967295))) 32))), .int .u64 (u64 ((u64 ((shr x1 32) * (Go.bits .and .u64 y2 4294967295))) + (shr (u64 ((Go.bits .and .u64 x1 4294967295) * (Go.bits .and .u64 y2 4294967295))) 32))), .int .u64 (Go.bits .and .u64 (u64 ((u64 ((shr x1 32) * (Go.bits .and .u64 y2 4294967295))) + (shr (u64 ((Go.bits .and .u64 x1 4294967295) * (Go.bits .and .u64 y2 4294967295))) 32))) 4294967295), .int .u64 (u64 ((u64 ((shr x1 32) * (Go.bits .and .u64 y2 4294967295))) + (shr (u64 ((Go.bits .and .u64 x1 4294967295) * (Go.bits .and .u64 y2 4294967295))) 32))), .int .u64 (shr (u64 ((u64 ((shr x1 32) * (Go.bits .and .u64 y2 4294967295))) + (shr (u64 ((Go.bits .and .u64 x1 4294967295) * (Go.bits .and .u64 y2 4294967295))) 32))) 32), .int .u64 (Go.bits .and .u64 (u64 ((u64 ((shr x1 32) * (Go.bits .and .u64 y2 4294967295))) + (shr (u64 ((Go.bits .and .u64 x1 4294967295) * (Go.bits .and .u64 y2 4294967295))) 32))) 4294967295), .int .u64 (Go.bits .and .u64 x1 4294967295), .int .u64 (shr y2 32), .int .u64 (u64 ((Go.bits .and .u64 x1 4294967295) * (shr y2 32))), .int .u64 (u64 ((Go.bits .and .u64 (u64 ((u64 ((shr x1 32) * (Go.bits .and .u64 y2 4294967295))) + (shr (u64 ((Go.bits .and .u64 x1 4294967295) * (Go.bits .and .u64 y2 4294967295))) 32))) 4294967295) + (u64 ((Go.bits .and .u64 x1 4294967295) * (shr y2 32))))), undef, undef, undef, undef, undef, undef, undef, undef, undef, undef, undef], []⟩) (by kernel_rfl) ?_
  refine wpList_nil ?_
  refine hK22 _ _ ?_
  refine wp_seq_k (fun K23 hK24 => ?_)
  refine wp_region_lit ?_
  refine seqS9 (a' := ⟨#[.int .u64 x1, .int .u64 y2, undef, undef, .int .u64 (u64 ((u64 ((u64 ((shr x1 32) * (shr y2 32))) + (shr (u64 ((u64 ((shr x1 32) * (Go.bits .and .u64 y2 4294967295))) + (shr (u64 ((Go.bits .and .u64 x1 4294967295) * (Go.bits .and .u64 y2 4294967295))) 32))) 32))) + (shr (u64 ((Go.bits .and .u64 (u64 ((u64 ((shr x1 32) * (Go.bits .and .u64 y2 4294967295))) + (shr (u64 ((Go.bits .and .u64 x1 4294967295) * (Go.bits .and .u64 y2 4294967295))) 32))) 4294967295) + (u64 ((Go.bits .and .u64 x1 4294967295) * (shr y2 32))))) 32))), .int .u64 0, .int .u64 (Go.bits .and .u64 x1 4294967295), .int .u64 (shr x1 32), .int .u64 (Go.bits .and .u64 y2 4294967295), .int .u64 (shr y2 32), .int .u64 (u64 ((Go.bits .and .u64 x1 4294967295) * (Go.bits .and .u64 y2 4294967295))), .int .u64 (u64 ((u64 ((shr x1 32) * (Go.bits .and .u64 y2 4294967295))) + (shr (u64 ((Go.bits .and .u64 x1 4294967295) * (Go.bits .and .u64 y2 4294967295))) 32))), .int .u64 (u64 ((Go.bits .and .u64 (u64 ((u64 ((shr x1 32) * (Go.bits .and .u64 y2 4294967295))) + (shr (u64 ((Go.bits .and .u64 x1 4294967295) * (Go.bits .and .u64 y2 4294967295))) 32))) 4294967295) + (u64 ((Go.bits .and .u64 x1 4294967295) * (shr y2 32))))), .int .u64 (shr (u64 ((u64 ((shr x1 32) * (Go.bits .and .u64 y2 4294967295))) + (shr (u64 ((Go.bits .and .u64 x1 4294967295) * (Go.bits .and .u64 y2 4294967295))) 32))) 32), .int .u64 x1, .int .u64 (Go.bits .and .u64 x1 4294967295), .int .u64 x1, .int .u64 (shr x1 32), .int .u64 y2, .int .u64 (Go.bits .and .u64 y2 4294967295), .int .u64 y2, .int .u64 (shr y2 32), .int .u64 (Go.bits .and .u64 x1 4294967295), .int .u64 (Go.bits .and .u64 y2 4294967295), .int .u64 (u64 ((Go.bits .and .u64 x1 4294967295) * (Go.bits .and .u64 y2 4294967295))), .int .u64 (shr x1 32), .int .u64 (Go.bits .and .u64 y2 4294967295), .int .u64 (u64 ((shr x1 32) * (Go.bits .and .u64 y2 4294967295))), .int .u64 (u64 ((Go.bits .and .u64 x1 4294967295) * (Go.bits .and .u64 y2 4294967295))), .int .u64 (shr (u64 ((Go.bits .and .u64 x1 4294967295) * (Go.bits .and .u64 y2 4294967295))) 32), .int .u64 (u64 ((u64 ((shr x1 32) * (Go.bits .and .u64 y2 4294967295))) + (shr (u64 ((Go.bits .and .u64 x1 4294967295) * (Go.bits .and .u64 y2 4294967295))) 32))), .int .u64 (u64 ((u64 ((shr x1 32) * (Go.bits .and .u64 y2 4294967295))) + (shr (u64 ((Go.bits .and .u64 x1 4294967295) * (Go.bits .and .u64 y2 4294967295))) 32))), .int .u64 (Go.bits .and .u64 (u64 ((u64 ((shr x1 32) * (Go.bits .and .u64 y2 4294967295))) + (shr (u64 ((Go.bits .and .u64 x1 4294967295) * (Go.bits .and .u64 y2 4294967295))) 32))) 4294967295), .int .u64 (u64 ((u64 ((shr x1 32) * (Go.bits .and .u64 y2 4294967295))) + (shr (u64 ((Go.bits .and .u64 x1 4294967295) * (Go.bits .and .u64 y2 4294967295))) 32))), .int .u64 (shr (u64 ((u64 ((shr x1 32) * (Go.bits .and .u64 y2 4294967295))) + (shr (u64 ((Go.bits .and .u64 x1 4294967295) * (Go.bits .and .u64 y2 4294967295))) 32))) 32), .int .u64 (Go.bits .and .u64 (u64 ((u64 ((shr x1 32) * (Go.bits .and .u64 y2 4294967295))) + (shr (u64 ((Go.bits .and .u64 x1 4294967295) * (Go.bits .and .u64 y2 4294967295))) 32))) 4294967295), .int .u64 (Go.bits .and .u64 x1 4294967295), .int .u64 (shr y2 32), .int .u64 (u64 ((Go.bits .and .u64 x1 4294967295) * (shr y2 32))), .int .u64 (u64 ((Go.bits .and .u64 (u64 ((u64 ((shr x1 32) * (Go.bits .and .u64 y2 4294967295))) + (shr (u64 ((Go.bits .and .u64 x1 4294967295) * (Go.bits .and .u64 y2 4294967295))) 32))) 4294967295) + (u64 ((Go.bits .and .u64 x1 4294967295) * (shr y2 32))))), .int .u64 (shr x1 32), .int .u64 (shr y2 32), .int .u64 (u64 ((shr x1 32) * (shr y2 32))), .int .u64 (shr (u64 ((u64 ((shr x1 32) * (Go.bits .and .u64 y2 4294967295))) + (shr (u64 ((Go.bits .and .u64 x1 4294967295) * (Go.bits .and .u64 y2 4294967295))) 32))) 32), .int .u64 (u64 ((u64 ((shr x1 32) * (shr y2 32))) + (shr (u64 ((u64 ((shr x1 32) * (Go.bits .and .u64 y2 4294967295))) + (shr (u64 ((Go.bits .and .u64 x1 4294967295) * (Go.bits .and .u64 y2 4294967295))) 32))) 32))), .int .u64 (u64 ((Go.bits .and .u64 (u64 ((u64 ((shr x1 32) * (Go.bits .and .u64 y2 4294967295))) + (shr (u64 ((Go.bits .and .u64 x1 4294967295) * (Go.bits .and .u64 y2 4294967295))) 32))) 4294967295) + (u64 ((Go.bits .and .u64 x1 4294967295) * (shr y2 32))))), .int .u64 (shr (u64 ((Go.bits .and .u64 (u64 ((u64 ((shr x1 32) * (Go.bits .and .u64 y2 4294967295))) + (shr (u64 ((Go.bits .and .u64 x1 4294967295) * (Go.bits .and .u64 y2 4294967295))) 32))) 4294967295) + (u64 ((Go.bits .and .u64 x1 4294967295) * (shr y2 32))))) 32), .int .u64 (u64 ((u64 ((u64 ((shr x1 32) * (shr y2 32))) + (shr (u64 ((u64 ((shr x1 32) * (Go.bits .and .u64 y2 4294967295))) + (shr (u64 ((Go.bits .and .u64 x1 4294967295) * (Go.bits .and .u64 y2 4294967295))) 32))) 32))) + (shr (u64 ((Go.bits .and .u64 (u64 ((u64 ((shr x1 32) * (Go.bits .and .u64 y2 4294967295))) + (shr (u64 ((Go.bits .and .u64 x1 4294967295) * (Go.bits .and .u64 y2 4294967295))) 32))) 4294967295) + (u64 ((Go.bits .and .u64 x1 4294967295) * (shr y2 32))))) 32))), undef, undef, undef], []⟩) (by kernel_rfl) ?_
  refine wpList_nil ?_
  refine hK24 _ _ ?_
  refine wp_seq_k (fun K25 hK26 => ?_)
  refine wp_region_lit ?_
  refine seqS4 (a' := ⟨#[.int .u64 x1, .int .u64 y2, undef, undef, .int .u64 (u64 ((u64 ((u64 ((shr x1 32) * (shr y2 32))) + (shr (u64 ((u64 ((shr x1 32) * (Go.bits .and .u64 y2 4294967295))) + (shr (u64 ((Go.bits .and .u64 x1 4294967295) * (Go.bits .and .u64 y2 4294967295))) 32))) 32))) + (shr (u64 ((Go.bits .and .u64 (u64 ((u64 ((shr x1 32) * (Go.bits .and .u64 y2 4294967295))) + (shr (u64 ((Go.bits .and .u64 x1 4294967295) * (Go.bits .and .u64 y2 4294967295))) 32))) 4294967295) + (u64 ((Go.bits .and .u64 x1 4294967295) * (shr y2 32))))) 32))), .int .u64 (u64 (x1 * y2)), .int .u64 (Go.bits .and .u64 x1 4294967295), .int .u64 (shr x1 32), .int .u64 (Go.bits .and .u64 y2 4294967295), .int .u64 (shr y2 32), .int .u64 (u64 ((Go.bits .and .u64 x1 4294967295) * (Go.bits .and .u64 y2 4294967295))), .int .u64 (u64 ((u64 ((shr x1 32) * (Go.bits .and .u64 y2 4294967295))) + (shr (u64 ((Go.bits .and .u64 x1 4294967295) * (Go.bits .and .u64 y2 4294967295))) 32))), .int .u64 (u64 ((Go.bits .and .u64 (u64 ((u64 ((shr x1 32) * (Go.bits .and .u64 y2 4294967295))) + (shr (u64 ((Go.bits .and .u64 x1 4294967295) * (Go.bits .and .u64 y2 4294967295))) 32))) 4294967295) + (u64 ((Go.bits .and .u64 x1 4294967295) * (shr y2 32))))), .int .u64 (shr (u64 ((u64 ((shr x1 32) * (Go.bits .and .u64 y2 4294967295))) + (shr (u64 ((Go.bits .and .u64 x1 4294967295) * (Go.bits .and .u64 y2 4294967295))) 32))) 32), .int .u64 x1, .int .u64 (Go.bits .and .u64 x1 4294967295), .int .u64 x1, .int .u64 (shr x1 32), .int .u64 y2, .int .u64 (Go.bits .and .u64 y2 4294967295), .int .u64 y2, .int .u64 (shr y2 32), .int .u64 (Go.bits .and .u64 x1 4294967295), .int .u64 (Go.bits .and .u64 y2 4294967295), .int .u64 (u64 ((Go.bits .and .u64 x1 4294967295) * (Go.bits .and .u64 y2 4294967295))), .int .u64 (shr x1 32), .int .u64 (Go.bits .and .u64 y2 4294967295), .int .u64 (u64 ((shr x1 32) * (Go.bits .and .u64 y2 4294967295))), .int .u64 (u64 ((Go.bits .and .u64 x1 4294967295) * (Go.bits .and .u64 y2 4294967295))), .int .u64 (shr (u64 ((Go.bits .and .u64 x1 4294967295) * (Go.bits .and .u64 y2 4294967295))) 32), .int .u64 (u64 ((u64 ((shr x1 32) * (Go.bits .and .u64 y2 4294967295))) + (shr (u64 ((Go.bits .and .u64 x1 4294967295) * (Go.bits .and .u64 y2 4294967295))) 32))), .int .u64 (u64 ((u64 ((shr x1 32) * (Go.bits .and .u64 y2 4294967295))) + (shr (u64 ((Go.bits .and .u64 x1 4294967295) * (Go.bits .and .u64 y2 4294967295))) 32))), .int .u64 (Go.bits .and .u64 (u64 ((u64 ((shr x1 32) * (Go.bits .and .u64 y2 4294967295))) + (shr (u64 ((Go.bits .and .u64 x1 4294967295) * (Go.bits .and .u64 y2 4294967295))) 32))) 4294967295), .int .u64 (u64 ((u64 ((shr x1 32) * (Go.bits .and .u64 y2 4294967295))) + (shr (u64 ((Go.bits .and .u64 x1 4294967295) * (Go.bits .and .u64 y2 4294967295))) 32))), .int .u64 (shr (u64 ((u64 ((shr x1 32) * (Go.bits .and .u64 y2 4294967295))) + (shr (u64 ((Go.bits .and .u64 x1 4294967295) * (Go.bits .and .u64 y2 4294967295))) 32))) 32), .int .u64 (Go.bits .and .u64 (u64 ((u64 ((shr x1 32) * (Go.bits .and .u64 y2 4294967295))) + (shr (u64 ((Go.bits .and .u64 x1 4294967295) * (Go.bits .and .u64 y2 4294967295))) 32))) 4294967295), .int .u64 (Go.bits .and .u64 x1 4294967295), .int .u64 (shr y2 32), .int .u64 (u64 ((Go.bits .and .u64 x1 4294967295) * (shr y2 32))), .int .u64 (u64 ((Go.bits .and .u64 (u64 ((u64 ((shr x1 32) * (Go.bits .and .u64 y2 4294967295))) + (shr (u64 ((Go.bits .and .u64 x1 4294967295) * (Go.bits .and .u64 y2 4294967295))) 32))) 4294967295) + (u64 ((Go.bits .and .u64 x1 4294967295) * (shr y2 32))))), .int .u64 (shr x1 32), .int .u64 (shr y2 32), .int .u64 (u64 ((shr x1 32) * (shr y2 32))), .int .u64 (shr (u64 ((u64 ((shr x1 32) * (Go.bits .and .u64 y2 4294967295))) + (shr (u64 ((Go.bits .and .u64 x1 4294967295) * (Go.bits .and .u64 y2 4294967295))) 32))) 32), .int .u64 (u64 ((u64 ((shr x1 32) * (shr y2 32))) + (shr (u64 ((u64 ((shr x1 32) * (Go.bits .and .u64 y2 4294967295))) + (shr (u64 ((Go.bits .and .u64 x1 4294967295) * (Go.bits .and .u64 y2 4294967295))) 32))) 32))), .int .u64 (u64 ((Go.bits .and .u64 (u64 ((u64 ((shr x1 32) * (Go.bits .and .u64 y2 4294967295))) + (shr (u64 ((Go.bits .and .u64 x1 4294967295) * (Go.bits .and .u64 y2 4294967295))) 32))) 4294967295) + (u64 ((Go.bits .and .u64 x1 4294967295) * (shr y2 32))))), .int .u64 (shr (u64 ((Go.bits .and .u64 (u64 ((u64 ((shr x1 32) * (Go.bits .and .u64 y2 4294967295))) + (shr (u64 ((Go.bits .and .u64 x1 4294967295) * (Go.bits .and .u64 y2 4294967295))) 32))) 4294967295) + (u64 ((Go.bits .and .u64 x1 4294967295) * (shr y2 32))))) 32), .int .u64 (u64 ((u64 ((u64 ((shr x1 32) * (shr y2 32))) + (shr (u64 ((u64 ((shr x1 32) * (Go.bits .and .u64 y2 4294967295))) + (shr (u64 ((Go.bits .and .u64 x1 4294967295) * (Go.bits .and .u64 y2 4294967295))) 32))) 32))) + (shr (u64 ((Go.bits .and .u64 (u64 ((u64 ((shr x1 32) * (Go.bits .and .u64 y2 4294967295))) + (shr (u64 ((Go.bits .and .u64 x1 4294967295) * (Go.bits .and .u64 y2 4294967295))) 32))) 4294967295) + (u64 ((Go.bits .and .u64 x1 4294967295) * (shr y2 32))))) 32))), .int .u64 x1, .int .u64 y2, .int .u64 (u64 (x1 * y2))], []⟩) (by kernel_rfl) ?_
  refine wpList_nil ?_
  refine hK26 _ _ ?_
  refine wp_ret ?_
  refine hret _ _ ?_
  refine ends_still (v := Value.tuple #[.int .u64 (u64 ((u64 ((u64 ((shr x1 32) * (shr y2 32))) + (shr (u64 ((u64 ((shr x1 32) * (Go.bits .and .u64 y2 4294967295))) + (shr (u64 ((Go.bits .and .u64 x1 4294967295) * (Go.bits .and .u64 y2 4294967295))) 32))) 32))) + (shr (u64 ((Go.bits .and .u64 (u64 ((u64 ((shr x1 32) * (Go.bits .and .u64 y2 4294967295))) + (shr (u64 ((Go.bits .and .u64 x1 4294967295) * (Go.bits .and .u64 y2 4294967295))) 32))) 4294967295) + (u64 ((Go.bits .and .u64 x1 4294967295) * (shr y2 32))))) 32))), .int .u64 (u64 (x1 * y2))]) (by kernel_rfl) (by kernel_rfl) ?_
  injection h with h
  injection h with h0_ h
  subst h0_ h
  exact ⟨f, rfl, FM.le.refl _, HS⟩

set_option maxRecDepth 100000 in
set_option maxHeartbeats 4000000 in
theorem num_SqrtMul.calls (k : Nat)  (a1 : Int) (b2 : Int) {t w : World} {f : FM} {H : List Seg} (HS : St t w f (H)) (r1 : Int) (h : num_SqrtMul k a1 b2 = some r1) :
    Calls Try.prog 117 #[.int .i64 a1, .int .i64 b2] w (fun e w' => ∃ (g : FM), e = .returned (Value.int .i64 r1) ∧ FM.le f g ∧ St t w' g (H)) := by
  unfold num_SqrtMul at h
  refine enter Try.func117 rfl (tm := #[.int .i64 a1, .int .i64 b2, undef, undef, undef, undef, undef, undef, undef, undef, undef, undef, undef, undef, undef, undef, undef, undef, undef, undef, undef, undef, undef, undef, undef, undef, undef, undef, undef, undef, undef, undef, undef, undef, undef, undef, undef, undef, undef, undef, undef, undef, undef, undef, undef, undef, undef, undef, undef, undef, undef, undef, undef, undef, undef, undef, undef]) (by kernel_rfl) ?_
  intro B hret hnor hnp
  refine wp_seq_k (fun K3 hK4 => ?_)
  refine wp_region_lit ?_
  refine seqS1 (a' := ⟨#[.int .i64 a1, .int .i64 b2, undef, undef, .int .i64 0, undef, undef, undef, undef, undef, undef, undef, undef, undef, undef, undef, undef, undef, undef, undef, undef, undef, undef, undef, undef, undef, undef, undef, undef, undef, undef, undef, undef, undef, undef, undef, undef, undef, undef, undef, undef, undef, undef, undef, undef, undef, undef, undef, undef, undef, undef, undef, undef, undef, undef, undef, undef], []⟩) (by kernel_rfl) ?_
  refine wpList_nil ?_
  refine hK4 _ _ ?_
  refine wp_seq_k (fun K5 hK6 => ?_)
  refine wp_seq_k (fun K7 hK8 => ?_)
  refine wp_region_lit ?_
  refine seqS3 (a' := ⟨#[.int .i64 a1, .int .i64 b2, undef, undef, .int .i64 0, undef, undef, undef, undef, undef, undef, .int .i64 a1, .bool (decide (a1 < 0)), .bool (decide (a1 < 0)), undef, undef, undef, undef, undef, undef, undef, undef, undef, undef, undef, undef, undef, undef, undef, undef, undef, undef, undef, undef, undef, undef, undef, undef, undef, undef, undef, undef, undef, undef, undef, undef, undef, undef, undef, undef, undef, undef, undef, undef, undef, undef, undef], []⟩) (by kernel_rfl) ?_
  have hq_ := ite_some h; clear h; rcases hq_ with ⟨c9, h⟩ | ⟨c9, h⟩
  · have c9 : a1 < 0 := c9
    refine seqRwI 12 (x := (decide (a1 < 0))) (v := true) (by kernel_rfl) (decide_eq_true c9) ?_
    refine seqRwI 13 (x := (decide (a1 < 0))) (v := true) (by kernel_rfl) (decide_eq_true c9) ?_
    refine seqS3 (a' := ⟨#[.int .i64 a1, .int .i64 b2, undef, undef, .int .i64 0, undef, undef, undef, undef, undef, undef, .int .i64 a1, .bool true, .bool true, undef, undef, .bool true, undef, undef, undef, undef, undef, undef, undef, undef, undef, undef, undef, undef, undef, undef, undef, undef, undef, undef, undef, undef, undef, undef, undef, undef, undef, undef, undef, undef, undef, undef, undef, undef, undef, undef, undef, undef, undef, undef, undef, undef], []⟩) (by kernel_rfl) ?_
    refine wpList_nil ?_
    refine hK8 _ _ ?_
    refine condT (by kernel_rfl) ?_
    refine wp_seq_k (fun K10 hK11 => ?_)
    refine wp_region_lit ?_
    refine seqS1 (a' := ⟨#[.int .i64 a1, .int .i64 b2, undef, undef, .int .i64 0, undef, undef, undef, undef, undef, undef, .int .i64 a1, .bool true, .bool true, undef, undef, .bool true, undef, undef, undef, undef, undef, undef, undef, undef, undef, undef, undef, undef, undef, undef, undef, undef, undef, undef, undef, undef, undef, undef, undef, undef, undef, undef, undef, undef, undef, undef, undef, undef, undef, undef, undef, undef, undef, undef, undef, undef], []⟩) (by kernel_rfl) ?_
    refine wpList_nil ?_
    refine hK11 _ _ ?_
    refine wp_ret ?_
    refine hret _ _ ?_
    refine ends_still (v := Value.int .i64 0) (by kernel_rfl) (by kernel_rfl) ?_
    injection h with h
    subst h
    exact ⟨f, rfl, FM.le.refl _, HS⟩
  · have c9 : ¬ (a1 < 0) := c9
    refine seqRwI 12 (x := (decide (a1 < 0))) (v := false) (by kernel_rfl) (decide_eq_false c9) ?_
    refine seqRwI 13 (x := (decide (a1 < 0))) (v := false) (by kernel_rfl) (decide_eq_false c9) ?_
    refine seqS3 (a' := ⟨#[.int .i64 a1, .int .i64 b2, undef, undef, .int .i64 0, undef, undef, undef, undef, undef, undef, .int .i64 a1, .bool false, .bool false, .int .i64 b2, .bool (decide (b2 < 0)), .bool (decide (b2 < 0)), undef, undef, undef, undef, undef, undef, undef, undef, undef, undef, undef, undef, undef, undef, undef, undef, undef, undef, undef, undef, undef, undef, undef, undef, undef, undef, undef, undef, undef, undef, undef, undef, undef, undef, undef, undef, undef, undef, undef, undef], []⟩) (by kernel_rfl) ?_
    refine wpList_nil ?_
    refine hK8 _ _ ?_
    have hq_ := ite_some h; clear h; rcases hq_ with ⟨c13, h⟩ | ⟨c13, h⟩
    · have c13 : b2 < 0 := c13
      refine wpRwI 15 (x := (decide (b2 < 0))) (v := true) (by kernel_rfl) (decide_eq_true c13) ?_
      refine wpRwI 16 (x := (decide (b2 < 0))) (v := true) (by kernel_rfl) (decide_eq_true c13) ?_
      refine condT (by kernel_rfl) ?_
      refine wp_seq_k (fun K14 hK15 => ?_)
      refine wp_region_lit ?_
      refine seqS1 (a' := ⟨#[.int .i64 a1, .int .i64 b2, undef, undef, .int .i64 0, undef, undef, undef, undef, undef, undef, .int .i64 a1, .bool false, .bool false, .int .i64 b2, .bool true, .bool true, undef, undef, undef, undef, undef, undef, undef, undef, undef, undef, undef, undef, undef, undef, undef, undef, undef, undef, undef, undef, undef, undef, undef, undef, undef, undef, undef, undef, undef, undef, undef, undef, undef, undef, undef, undef, undef, undef, undef, undef], []⟩) (by kernel_rfl) ?_
      refine wpList_nil ?_
      refine hK15 _ _ ?_
      refine wp_ret ?_
      refine hret _ _ ?_
      refine ends_still (v := Value.int .i64 0) (by kernel_rfl) (by kernel_rfl) ?_
      injection h with h
      subst h
      exact ⟨f, rfl, FM.le.refl _, HS⟩
    · have c13 : ¬ (b2 < 0) := c13
      refine wpRwI 15 (x := (decide (b2 < 0))) (v := false) (by kernel_rfl) (decide_eq_false c13) ?_
      refine wpRwI 16 (x := (decide (b2 < 0))) (v := false) (by kernel_rfl) (decide_eq_false c13) ?_
      refine condF (by kernel_rfl) ?_
      refine wp_skip ?_
      refine hK6 _ _ ?_
      refine wp_seq_k (fun K16 hK17 => ?_)
      refine wp_region_lit ?_
      have hq_ := bind_some h; clear h; obtain ⟨⟨vt18, vt19⟩, hc20, h⟩ := hq_
      refine seqL4 (by kernel_rfl) ?_
      refine seqK rfl (does_call (f := 97) (args := #[.int .u64 (u64 (a1)), .int .u64 (u64 (b2))]) (by kernel_rfl) (bits_Mul64.calls k (u64 (a1)) (u64 (b2)) HS vt18 vt19 hc20) ?_)
      rintro _ W23 ⟨f21, rfl, L22, HS24⟩
      refine ⟨_, rfl, ?_⟩
      refine seqS5 (a' := ⟨#[.int .i64 a1, .int .i64 b2, undef, undef, .int .i64 0, .int .u64 vt18, .int .u64 vt19, undef, undef, undef, undef, .int .i64 a1, .bool false, .bool false, .int .i64 b2, .bool false, .bool false, .tuple #[.int .u64 vt18, .int .u64 vt19], .int .i64 a1, .int .u64 (u64 (a1)), .int .i64 b2, .int .u64 (u64 (b2)), .tuple #[.int .u64 vt18, .int .u64 vt19], .int .u64 vt18, .int .u64 vt19, undef, undef, undef, undef, undef, undef, undef, undef, undef, undef, undef, undef, undef, undef, undef, undef, undef, undef, undef, undef, undef, undef, undef, undef, undef, undef, undef, undef, undef, undef, undef, undef], []⟩) (by kernel_rfl) ?_
      refine wpList_nil ?_
      refine hK17 _ _ ?_
      refine wp_seq_k (fun K25 hK26 => ?_)
      refine wp_region_lit ?_
      refine seqS1 (a' := ⟨#[.int .i64 a1, .int .i64 b2, undef, undef, .int .i64 0, .int .u64 vt18, .int .u64 vt19, .int .u64 0, undef, undef, undef, .int .i64 a1, .bool false, .bool false, .int .i64 b2, .bool false, .bool false, .tuple #[.int .u64 vt18, .int .u64 vt19], .int .i64 a1, .int .u64 (u64 (a1)), .int .i64 b2, .int .u64 (u64 (b2)), .tuple #[.int .u64 vt18, .int .u64 vt19], .int .u64 vt18, .int .u64 vt19, undef, undef, undef, undef, undef, undef, undef, undef, undef, undef, undef, undef, undef, undef, undef, undef, undef, undef, undef, undef, undef, undef, undef, undef, undef, undef, undef, undef, undef, undef, undef, undef], []⟩) (by kernel_rfl) ?_
      refine wpList_nil ?_
      refine hK26 _ _ ?_
      refine wp_seq_k (fun K27 hK28 => ?_)
      refine wp_seq_k (fun K29 hK30 => ?_)
      refine wp_region_lit ?_
      refine seqS1 (a' := ⟨#[.int .i64 a1, .int .i64 b2, undef, undef, .int .i64 0, .int .u64 vt18, .int .u64 vt19, .int .u64 0, .int .u64 4611686018427387904, undef, undef, .int .i64 a1, .bool false, .bool false, .int .i64 b2, .bool false, .bool false, .tuple #[.int .u64 vt18, .int .u64 vt19], .int .i64 a1, .int .u64 (u64 (a1)), .int .i64 b2, .int .u64 (u64 (b2)), .tuple #[.int .u64 vt18, .int .u64 vt19], .int .u64 vt18, .int .u64 vt19, undef, undef, undef, undef, undef, undef, undef, undef, undef, undef, undef, undef, undef, undef, undef, undef, undef, undef, undef, undef, undef, undef, undef, undef, undef, undef, undef, undef, undef, undef, undef, undef], []⟩) (by kernel_rfl) ?_
      refine wpList_nil ?_
      refine hK30 _ _ ?_
      refine blockK (fun B31 hx32 hn33 hr34 ho35 hp36 => ?_)
      have hq_ := bind_some h; clear h; obtain ⟨o37, hv84, h⟩ := hq_
      have J85 : ∀ (f78 : FM) (r83 : Int) (j82 : Nat → Value) (W80 : World) (a_ : Act), FM.le f21 f78 → some (r83) = some o37 → St t W80 f78 (H) → a_ = ⟨#[.int .i64 a1, .int .i64 b2, undef, undef, .int .i64 0, .int .u64 vt18, .int .u64 vt19, .int .u64 r83, (j82 0), (j82 1), (j82 2), .int .i64 a1, .bool false, .bool false, .int .i64 b2, .bool false, .bool false, .tuple #[.int .u64 vt18, .int .u64 vt19], .int .i64 a1, .int .u64 (u64 (a1)), .int .i64 b2, .int .u64 (u64 (b2)), .tuple #[.int .u64 vt18, .int .u64 vt19], .int .u64 vt18, .int .u64 vt19, (j82 3), (j82 4), (j82 5), (j82 6), (j82 7), (j82 8), (j82 9), (j82 10), (j82 11), (j82 12), (j82 13), (j82 14), (j82 15), (j82 16), (j82 17), (j82 18), (j82 19), (j82 20), (j82 21), (j82 22), (j82 23), (j82 24), (j82 25), (j82 26), (j82 27), (j82 28), (j82 29), (j82 30), (j82 31), (j82 32), undef, undef], []⟩ → K27 a_ W80 := by
        intro f78 r83 j82 W80 a_ L79 hj86 HS81  hfr_; subst hfr_
        injection hj86 with hj86; subst hj86; try dsimp only at h
        refine hK28 _ _ ?_
        refine wp_seq_k (fun K87 hK88 => ?_)
        refine wp_region_lit ?_
        refine seqS3 (a' := ⟨#[.int .i64 a1, .int .i64 b2, undef, undef, .int .i64 (w64 (r83)), .int .u64 vt18, .int .u64 vt19, .int .u64 r83, (j82 0), (j82 1), (j82 2), .int .i64 a1, .bool false, .bool false, .int .i64 b2, .bool false, .bool false, .tuple #[.int .u64 vt18, .int .u64 vt19], .int .i64 a1, .int .u64 (u64 (a1)), .int .i64 b2, .int .u64 (u64 (b2)), .tuple #[.int .u64 vt18, .int .u64 vt19], .int .u64 vt18, .int .u64 vt19, (j82 3), (j82 4), (j82 5), (j82 6), (j82 7), (j82 8), (j82 9), (j82 10), (j82 11), (j82 12), (j82 13), (j82 14), (j82 15), (j82 16), (j82 17), (j82 18), (j82 19), (j82 20), (j82 21), (j82 22), (j82 23), (j82 24), (j82 25), (j82 26), (j82 27), (j82 28), (j82 29), (j82 30), (j82 31), (j82 32), .int .u64 r83, .int .i64 (w64 (r83))], []⟩) (by kernel_rfl) ?_
        refine wpList_nil ?_
        refine hK88 _ _ ?_
        refine wp_ret ?_
        refine hret _ _ ?_
        refine ends_still (v := Value.int .i64 (w64 (r83))) (by kernel_rfl) (by kernel_rfl) ?_
        injection h with h
        subst h
        exact ⟨f78, rfl, (L22.trans L79), HS81⟩
      clear h; have h := hv84; clear hv84
      refine loopK (fun n_ a_ w_ => ∃ (f41 : FM) (r46 : Int) (bit47 : Int) (j45 : Nat → Value), FM.le f21 f41 ∧ St t w_ f41 (H) ∧ num_SqrtMul.l0 k vt18 vt19 n_ r46 bit47 = some o37 ∧ a_ = ⟨#[.int .i64 a1, .int .i64 b2, undef, undef, .int .i64 0, .int .u64 vt18, .int .u64 vt19, .int .u64 r46, .int .u64 bit47, (j45 0), (j45 1), .int .i64 a1, .bool false, .bool false, .int .i64 b2, .bool false, .bool false, .tuple #[.int .u64 vt18, .int .u64 vt19], .int .i64 a1, .int .u64 (u64 (a1)), .int .i64 b2, .int .u64 (u64 (b2)), .tuple #[.int .u64 vt18, .int .u64 vt19], .int .u64 vt18, .int .u64 vt19, (j45 2), (j45 3), (j45 4), (j45 5), (j45 6), (j45 7), (j45 8), (j45 9), (j45 10), (j45 11), (j45 12), (j45 13), (j45 14), (j45 15), (j45 16), (j45 17), (j45 18), (j45 19), (j45 20), (j45 21), (j45 22), (j45 23), (j45 24), (j45 25), (j45 26), (j45 27), (j45 28), (j45 29), (j45 30), (j45 31), undef, undef], []⟩) k ⟨f21, 0, 4611686018427387904, (fun i_ => [undef, undef, undef, undef, undef, undef, undef, undef, undef, undef, undef, undef, undef, undef, undef, undef, undef, undef, undef, undef, undef, undef, undef, undef, undef, undef, undef, undef, undef, undef, undef, undef].getD i_ undef), (FM.le.refl _), HS24, h, (by kernel_rfl)⟩ ?_
      clear h
      rintro n40 _ W43 ⟨f41, r46, bit47, j45, L42, HS44, h, rfl⟩ K38 hK39
      obtain _ | n40 := n40
      · exact nomatch h
      simp only [num_SqrtMul.l0] at h
      refine wp_seq_k (fun K48 hK49 => ?_)
      refine wp_seq_k (fun K50 hK51 => ?_)
      refine wp_region_lit ?_
      refine seqS2 (a' := ⟨#[.int .i64 a1, .int .i64 b2, undef, undef, .int .i64 0, .int .u64 vt18, .int .u64 vt19, .int .u64 r46, .int .u64 bit47, (j45 0), (j45 1), .int .i64 a1, .bool false, .bool false, .int .i64 b2, .bool false, .bool false, .tuple #[.int .u64 vt18, .int .u64 vt19], .int .i64 a1, .int .u64 (u64 (a1)), .int .i64 b2, .int .u64 (u64 (b2)), .tuple #[.int .u64 vt18, .int .u64 vt19], .int .u64 vt18, .int .u64 vt19, .int .u64 bit47, .bool (decide (bit47 > 0)), (j45 4), (j45 5), (j45 6), (j45 7), (j45 8), (j45 9), (j45 10), (j45 11), (j45 12), (j45 13), (j45 14), (j45 15), (j45 16), (j45 17), (j45 18), (j45 19), (j45 20), (j45 21), (j45 22), (j45 23), (j45 24), (j45 25), (j45 26), (j45 27), (j45 28), (j45 29), (j45 30), (j45 31), undef, undef], []⟩) (by kernel_rfl) ?_
      refine wpList_nil ?_
      refine hK51 _ _ ?_
      have hq_ := ite_some h; clear h; rcases hq_ with ⟨c53, h⟩ | ⟨c53, h⟩
      · have c53 : bit47 > 0 := c53
        refine wpRwI 26 (x := (decide (bit47 > 0))) (v := true) (by kernel_rfl) (decide_eq_true c53) ?_
        refine condT (by kernel_rfl) ?_
        refine wp_skip ?_
        refine hK49 _ _ ?_
        refine wp_seq_k (fun K54 hK55 => ?_)
        refine blockK (fun B56 hx57 hn58 hr59 ho60 hp61 => ?_)
        refine wp_seq_k (fun K63 hK64 => ?_)
        refine wp_region_lit ?_
        have hq_ := bind_some h; clear h; obtain ⟨⟨vt65, vt66⟩, hc67, h⟩ := hq_
        refine seqL6 (by kernel_rfl) ?_
        refine seqK rfl (does_call (f := 97) (args := #[.int .u64 (Go.bits .or .u64 r46 bit47), .int .u64 (Go.bits .or .u64 r46 bit47)]) (by kernel_rfl) (bits_Mul64.calls k (Go.bits .or .u64 r46 bit47) (Go.bits .or .u64 r46 bit47) HS44 vt65 vt66 hc67) ?_)
        rintro _ W70 ⟨f68, rfl, L69, HS71⟩
        refine ⟨_, rfl, ?_⟩
        refine seqS5 (a' := ⟨#[.int .i64 a1, .int .i64 b2, undef, undef, .int .i64 0, .int .u64 vt18, .int .u64 vt19, .int .u64 r46, .int .u64 bit47, .int .u64 vt65, .int .u64 vt66, .int .i64 a1, .bool false, .bool false, .int .i64 b2, .bool false, .bool false, .tuple #[.int .u64 vt18, .int .u64 vt19], .int .i64 a1, .int .u64 (u64 (a1)), .int .i64 b2, .int .u64 (u64 (b2)), .tuple #[.int .u64 vt18, .int .u64 vt19], .int .u64 vt18, .int .u64 vt19, .int .u64 bit47, .bool true, (j45 4), (j45 5), .tuple #[.int .u64 vt65, .int .u64 vt66], .int .u64 r46, .int .u64 bit47, .int .u64 (Go.bits .or .u64 r46 bit47), .int .u64 r46, .int .u64 bit47, .int .u64 (Go.bits .or .u64 r46 bit47), .tuple #[.int .u64 vt65, .int .u64 vt66], .int .u64 vt65, .int .u64 vt66, (j45 16), (j45 17), (j45 18), (j45 19), (j45 20), (j45 21), (j45 22), (j45 23), (j45 24), (j45 25), (j45 26), (j45 27), (j45 28), (j45 29), (j45 30), (j45 31), undef, undef], []⟩) (by kernel_rfl) ?_
        refine wpList_nil ?_
        refine hK64 _ _ ?_
        refine wp_seq_k (fun K72 hK73 => ?_)
        refine wp_region_lit ?_
        refine seqS4 (a' := ⟨#[.int .i64 a1, .int .i64 b2, undef, undef, .int .i64 0, .int .u64 vt18, .int .u64 vt19, .int .u64 r46, .int .u64 bit47, .int .u64 vt65, .int .u64 vt66, .int .i64 a1, .bool false, .bool false, .int .i64 b2, .bool false, .bool false, .tuple #[.int .u64 vt18, .int .u64 vt19], .int .i64 a1, .int .u64 (u64 (a1)), .int .i64 b2, .int .u64 (u64 (b2)), .tuple #[.int .u64 vt18, .int .u64 vt19], .int .u64 vt18, .int .u64 vt19, .int .u64 bit47, .bool true, (j45 4), (j45 5), .tuple #[.int .u64 vt65, .int .u64 vt66], .int .u64 r46, .int .u64 bit47, .int .u64 (Go.bits .or .u64 r46 bit47), .int .u64 r46, .int .u64 bit47, .int .u64 (Go.bits .or .u64 r46 bit47), .tuple #[.int .u64 vt65, .int .u64 vt66], .int .u64 vt65, .int .u64 vt66, .int .u64 vt65, .int .u64 vt18, .bool (decide (vt65 < vt18)), .bool (decide (vt65 < vt18)), (j45 20), (j45 21), (j45 22), (j45 23), (j45 24), (j45 25), (j45 26), (j45 27), (j45 28), (j45 29), (j45 30), (j45 31), undef, undef], []⟩) (by kernel_rfl) ?_
        have hq_ := ite_some h; clear h; rcases hq_ with ⟨c74, h⟩ | ⟨c74, h⟩
        · have c74 : vt65 < vt18 := c74
          refine seqRwI 41 (x := (decide (vt65 < vt18))) (v := true) (by kernel_rfl) (decide_eq_true c74) ?_
          refine seqRwI 42 (x := (decide (vt65 < vt18))) (v := true) (by kernel_rfl) (decide_eq_true c74) ?_
          refine seqS9 (a' := ⟨#[.int .i64 a1, .int .i64 b2, undef, undef, .int .i64 0, .int .u64 vt18, .int .u64 vt19, .int .u64 r46, .int .u64 bit47, .int .u64 vt65, .int .u64 vt66, .int .i64 a1, .bool false, .bool false, .int .i64 b2, .bool false, .bool false, .tuple #[.int .u64 vt18, .int .u64 vt19], .int .i64 a1, .int .u64 (u64 (a1)), .int .i64 b2, .int .u64 (u64 (b2)), .tuple #[.int .u64 vt18, .int .u64 vt19], .int .u64 vt18, .int .u64 vt19, .int .u64 bit47, .bool true, (j45 4), (j45 5), .tuple #[.int .u64 vt65, .int .u64 vt66], .int .u64 r46, .int .u64 bit47, .int .u64 (Go.bits .or .u64 r46 bit47), .int .u64 r46, .int .u64 bit47, .int .u64 (Go.bits .or .u64 r46 bit47), .tuple #[.int .u64 vt65, .int .u64 vt66], .int .u64 vt65, .int .u64 vt66, .int .u64 vt65, .int .u64 vt18, .bool true, .bool true, undef, undef, undef, undef, undef, undef, undef, undef, .bool true, (j45 29), (j45 30), (j45 31), undef, undef], []⟩) (by kernel_rfl) ?_
          refine wpList_nil ?_
          refine hK73 _ _ ?_
          refine condT (by kernel_rfl) ?_
          refine wp_region_lit ?_
          refine seqS4 (a' := ⟨#[.int .i64 a1, .int .i64 b2, undef, undef, .int .i64 0, .int .u64 vt18, .int .u64 vt19, .int .u64 (Go.bits .or .u64 r46 bit47), .int .u64 bit47, .int .u64 vt65, .int .u64 vt66, .int .i64 a1, .bool false, .bool false, .int .i64 b2, .bool false, .bool false, .tuple #[.int .u64 vt18, .int .u64 vt19], .int .i64 a1, .int .u64 (u64 (a1)), .int .i64 b2, .int .u64 (u64 (b2)), .tuple #[.int .u64 vt18, .int .u64 vt19], .int .u64 vt18, .int .u64 vt19, .int .u64 bit47, .bool true, (j45 4), (j45 5), .tuple #[.int .u64 vt65, .int .u64 vt66], .int .u64 r46, .int .u64 bit47, .int .u64 (Go.bits .or .u64 r46 bit47), .int .u64 r46, .int .u64 bit47, .int .u64 (Go.bits .or .u64 r46 bit47), .tuple #[.int .u64 vt65, .int .u64 vt66], .int .u64 vt65, .int .u64 vt66, .int .u64 vt65, .int .u64 vt18, .bool true, .bool true, undef, undef, undef, undef, undef, undef, undef, undef, .bool true, .int .u64 r46, .int .u64 bit47, .int .u64 (Go.bits .or .u64 r46 bit47), undef, undef], []⟩) (by kernel_rfl) ?_
          refine wpList_nil ?_
          refine hn58 _ _ ?_
          refine hK55 _ _ ?_
          refine wp_region_lit ?_
          refine seqS3 (a' := ⟨#[.int .i64 a1, .int .i64 b2, undef, undef, .int .i64 0, .int .u64 vt18, .int .u64 vt19, .int .u64 (Go.bits .or .u64 r46 bit47), .int .u64 (shr bit47 1), .int .u64 vt65, .int .u64 vt66, .int .i64 a1, .bool false, .bool false, .int .i64 b2, .bool false, .bool false, .tuple #[.int .u64 vt18, .int .u64 vt19], .int .i64 a1, .int .u64 (u64 (a1)), .int .i64 b2, .int .u64 (u64 (b2)), .tuple #[.int .u64 vt18, .int .u64 vt19], .int .u64 vt18, .int .u64 vt19, .int .u64 bit47, .bool true, .int .u64 bit47, .int .u64 (shr bit47 1), .tuple #[.int .u64 vt65, .int .u64 vt66], .int .u64 r46, .int .u64 bit47, .int .u64 (Go.bits .or .u64 r46 bit47), .int .u64 r46, .int .u64 bit47, .int .u64 (Go.bits .or .u64 r46 bit47), .tuple #[.int .u64 vt65, .int .u64 vt66], .int .u64 vt65, .int .u64 vt66, .int .u64 vt65, .int .u64 vt18, .bool true, .bool true, undef, undef, undef, undef, undef, undef, undef, undef, .bool true, .int .u64 r46, .int .u64 bit47, .int .u64 (Go.bits .or .u64 r46 bit47), undef, undef], []⟩) (by kernel_rfl) ?_
          refine wpList_nil ?_
          refine hK39 n40 _ _ (Nat.lt_succ_self _) ?_
          exact ⟨f68, (Go.bits .or .u64 r46 bit47), (shr bit47 1), (fun i_ => [Value.int .u64 vt65, Value.int .u64 vt66, Value.int .u64 bit47, Value.bool true, Value.int .u64 bit47, Value.int .u64 (shr bit47 1), Value.tuple #[.int .u64 vt65, .int .u64 vt66], Value.int .u64 r46, Value.int .u64 bit47, Value.int .u64 (Go.bits .or .u64 r46 bit47), Value.int .u64 r46, Value.int .u64 bit47, Value.int .u64 (Go.bits .or .u64 r46 bit47), Value.tuple #[.int .u64 vt65, .int .u64 vt66], Value.int .u64 vt65, Value.int .u64 vt66, Value.int .u64 vt65, Value.int .u64 vt18, Value.bool true, Value.bool true, undef, undef, undef, undef, undef, undef, undef, undef, Value.bool true, Value.int .u64 r46, Value.int .u64 bit47, Value.int .u64 (Go.bits .or .u64 r46 bit47)].getD i_ undef), (L42.trans L69), HS71, h, (by kernel_rfl)⟩
        · have c74 : ¬ (vt65 < vt18) := c74
          refine seqRwI 41 (x := (decide (vt65 < vt18))) (v := false) (by kernel_rfl) (decide_eq_false c74) ?_
          refine seqRwI 42 (x := (decide (vt65 < vt18))) (v := false) (by kernel_rfl) (decide_eq_false c74) ?_
          refine seqS4 (a' := ⟨#[.int .i64 a1, .int .i64 b2, undef, undef, .int .i64 0, .int .u64 vt18, .int .u64 vt19, .int .u64 r46, .int .u64 bit47, .int .u64 vt65, .int .u64 vt66, .int .i64 a1, .bool false, .bool false, .int .i64 b2, .bool false, .bool false, .tuple #[.int .u64 vt18, .int .u64 vt19], .int .i64 a1, .int .u64 (u64 (a1)), .int .i64 b2, .int .u64 (u64 (b2)), .tuple #[.int .u64 vt18, .int .u64 vt19], .int .u64 vt18, .int .u64 vt19, .int .u64 bit47, .bool true, (j45 4), (j45 5), .tuple #[.int .u64 vt65, .int .u64 vt66], .int .u64 r46, .int .u64 bit47, .int .u64 (Go.bits .or .u64 r46 bit47), .int .u64 r46, .int .u64 bit47, .int .u64 (Go.bits .or .u64 r46 bit47), .tuple #[.int .u64 vt65, .int .u64 vt66], .int .u64 vt65, .int .u64 vt66, .int .u64 vt65, .int .u64 vt18, .bool false, .bool false, .int .u64 vt65, .int .u64 vt18, .bool (vt65 == vt18), .bool (vt65 == vt18), (j45 24), (j45 25), (j45 26), (j45 27), (j45 28), (j45 29), (j45 30), (j45 31), undef, undef], []⟩) (by kernel_rfl) ?_
          have hq_ := ite_some h; clear h; rcases hq_ with ⟨c75, h⟩ | ⟨c75, h⟩
          · have c75 : vt65 = vt18 := c75
            refine seqRwI 45 (x := (vt65 == vt18)) (v := true) (by kernel_rfl) (beq_iff_eq.mpr c75) ?_
            refine seqRwI 46 (x := (vt65 == vt18)) (v := true) (by kernel_rfl) (beq_iff_eq.mpr c75) ?_
            refine seqS5 (a' := ⟨#[.int .i64 a1, .int .i64 b2, undef, undef, .int .i64 0, .int .u64 vt18, .int .u64 vt19, .int .u64 r46, .int .u64 bit47, .int .u64 vt65, .int .u64 vt66, .int .i64 a1, .bool false, .bool false, .int .i64 b2, .bool false, .bool false, .tuple #[.int .u64 vt18, .int .u64 vt19], .int .i64 a1, .int .u64 (u64 (a1)), .int .i64 b2, .int .u64 (u64 (b2)), .tuple #[.int .u64 vt18, .int .u64 vt19], .int .u64 vt18, .int .u64 vt19, .int .u64 bit47, .bool true, (j45 4), (j45 5), .tuple #[.int .u64 vt65, .int .u64 vt66], .int .u64 r46, .int .u64 bit47, .int .u64 (Go.bits .or .u64 r46 bit47), .int .u64 r46, .int .u64 bit47, .int .u64 (Go.bits .or .u64 r46 bit47), .tuple #[.int .u64 vt65, .int .u64 vt66], .int .u64 vt65, .int .u64 vt66, .int .u64 vt65, .int .u64 vt18, .bool false, .bool false, .int .u64 vt65, .int .u64 vt18, .bool true, .bool true, .int .u64 vt66, .int .u64 vt19, .bool (decide (vt66 ≤ vt19)), .bool (decide (vt66 ≤ vt19)), .bool (decide (vt66 ≤ vt19)), (j45 29), (j45 30), (j45 31), undef, undef], []⟩) (by kernel_rfl) ?_
            refine wpList_nil ?_
            refine hK73 _ _ ?_
            have hq_ := ite_some h; clear h; rcases hq_ with ⟨c77, h⟩ | ⟨c77, h⟩
            · have c77 : vt66 ≤ vt19 := c77
              refine wpRwI 49 (x := (decide (vt66 ≤ vt19))) (v := true) (by kernel_rfl) (decide_eq_true c77) ?_
              refine wpRwI 50 (x := (decide (vt66 ≤ vt19))) (v := true) (by kernel_rfl) (decide_eq_true c77) ?_
              refine wpRwI 51 (x := (decide (vt66 ≤ vt19))) (v := true) (by kernel_rfl) (decide_eq_true c77) ?_
              refine condT (by kernel_rfl) ?_
              refine wp_region_lit ?_
              refine seqS4 (a' := ⟨#[.int .i64 a1, .int .i64 b2, undef, undef, .int .i64 0, .int .u64 vt18, .int .u64 vt19, .int .u64 (Go.bits .or .u64 r46 bit47), .int .u64 bit47, .int .u64 vt65, .int .u64 vt66, .int .i64 a1, .bool false, .bool false, .int .i64 b2, .bool false, .bool false, .tuple #[.int .u64 vt18, .int .u64 vt19], .int .i64 a1, .int .u64 (u64 (a1)), .int .i64 b2, .int .u64 (u64 (b2)), .tuple #[.int .u64 vt18, .int .u64 vt19], .int .u64 vt18, .int .u64 vt19, .int .u64 bit47, .bool true, (j45 4), (j45 5), .tuple #[.int .u64 vt65, .int .u64 vt66], .int .u64 r46, .int .u64 bit47, .int .u64 (Go.bits .or .u64 r46 bit47), .int .u64 r46, .int .u64 bit47, .int .u64 (Go.bits .or .u64 r46 bit47), .tuple #[.int .u64 vt65, .int .u64 vt66], .int .u64 vt65, .int .u64 vt66, .int .u64 vt65, .int .u64 vt18, .bool false, .bool false, .int .u64 vt65, .int .u64 vt18, .bool true, .bool true, .int .u64 vt66, .int .u64 vt19, .bool true, .bool true, .bool true, .int .u64 r46, .int .u64 bit47, .int .u64 (Go.bits .or .u64 r46 bit47), undef, undef], []⟩) (by kernel_rfl) ?_
              refine wpList_nil ?_
              refine hn58 _ _ ?_
              refine hK55 _ _ ?_
              refine wp_region_lit ?_
              refine seqS3 (a' := ⟨#[.int .i64 a1, .int .i64 b2, undef, undef, .int .i64 0, .int .u64 vt18, .int .u64 vt19, .int .u64 (Go.bits .or .u64 r46 bit47), .int .u64 (shr bit47 1), .int .u64 vt65, .int .u64 vt66, .int .i64 a1, .bool false, .bool false, .int .i64 b2, .bool false, .bool false, .tuple #[.int .u64 vt18, .int .u64 vt19], .int .i64 a1, .int .u64 (u64 (a1)), .int .i64 b2, .int .u64 (u64 (b2)), .tuple #[.int .u64 vt18, .int .u64 vt19], .int .u64 vt18, .int .u64 vt19, .int .u64 bit47, .bool true, .int .u64 bit47, .int .u64 (shr bit47 1), .tuple #[.int .u64 vt65, .int .u64 vt66], .int .u64 r46, .int .u64 bit47, .int .u64 (Go.bits .or .u64 r46 bit47), .int .u64 r46, .int .u64 bit47, .int .u64 (Go.bits .or .u64 r46 bit47), .tuple #[.int .u64 vt65, .int .u64 vt66], .int .u64 vt65, .int .u64 vt66, .int .u64 vt65, .int .u64 vt18, .bool false, .bool false, .int .u64 vt65, .int .u64 vt18, .bool true, .bool true, .int .u64 vt66, .int .u64 vt19, .bool true, .bool true, .bool true, .int .u64 r46, .int .u64 bit47, .int .u64 (Go.bits .or .u64 r46 bit47), undef, undef], []⟩) (by kernel_rfl) ?_
              refine wpList_nil ?_
              refine hK39 n40 _ _ (Nat.lt_succ_self _) ?_
              exact ⟨f68, (Go.bits .or .u64 r46 bit47), (shr bit47 1), (fun i_ => [Value.int .u64 vt65, Value.int .u64 vt66, Value.int .u64 bit47, Value.bool true, Value.int .u64 bit47, Value.int .u64 (shr bit47 1), Value.tuple #[.int .u64 vt65, .int .u64 vt66], Value.int .u64 r46, Value.int .u64 bit47, Value.int .u64 (Go.bits .or .u64 r46 bit47), Value.int .u64 r46, Value.int .u64 bit47, Value.int .u64 (Go.bits .or .u64 r46 bit47), Value.tuple #[.int .u64 vt65, .int .u64 vt66], Value.int .u64 vt65, Value.int .u64 vt66, Value.int .u64 vt65, Value.int .u64 vt18, Value.bool false, Value.bool false, Value.int .u64 vt65, Value.int .u64 vt18, Value.bool true, Value.bool true, Value.int .u64 vt66, Value.int .u64 vt19, Value.bool true, Value.bool true, Value.bool true, Value.int .u64 r46, Value.int .u64 bit47, Value.int .u64 (Go.bits .or .u64 r46 bit47)].getD i_ undef), (L42.trans L69), HS71, h, (by kernel_rfl)⟩
            · have c77 : ¬ (vt66 ≤ vt19) := c77
              refine wpRwI 49 (x := (decide (vt66 ≤ vt19))) (v := false) (by kernel_rfl) (decide_eq_false c77) ?_
              refine wpRwI 50 (x := (decide (vt66 ≤ vt19))) (v := false) (by kernel_rfl) (decide_eq_false c77) ?_
              refine wpRwI 51 (x := (decide (vt66 ≤ vt19))) (v := false) (by kernel_rfl) (decide_eq_false c77) ?_
              refine condF (by kernel_rfl) ?_
              refine wp_skip ?_
              refine hn58 _ _ ?_
              refine hK55 _ _ ?_
              refine wp_region_lit ?_
              refine seqS3 (a' := ⟨#[.int .i64 a1, .int .i64 b2, undef, undef, .int .i64 0, .int .u64 vt18, .int .u64 vt19, .int .u64 r46, .int .u64 (shr bit47 1), .int .u64 vt65, .int .u64 vt66, .int .i64 a1, .bool false, .bool false, .int .i64 b2, .bool false, .bool false, .tuple #[.int .u64 vt18, .int .u64 vt19], .int .i64 a1, .int .u64 (u64 (a1)), .int .i64 b2, .int .u64 (u64 (b2)), .tuple #[.int .u64 vt18, .int .u64 vt19], .int .u64 vt18, .int .u64 vt19, .int .u64 bit47, .bool true, .int .u64 bit47, .int .u64 (shr bit47 1), .tuple #[.int .u64 vt65, .int .u64 vt66], .int .u64 r46, .int .u64 bit47, .int .u64 (Go.bits .or .u64 r46 bit47), .int .u64 r46, .int .u64 bit47, .int .u64 (Go.bits .or .u64 r46 bit47), .tuple #[.int .u64 vt65, .int .u64 vt66], .int .u64 vt65, .int .u64 vt66, .int .u64 vt65, .int .u64 vt18, .bool false, .bool false, .int .u64 vt65, .int .u64 vt18, .bool true, .bool true, .int .u64 vt66, .int .u64 vt19, .bool false, .bool false, .bool false, (j45 29), (j45 30), (j45 31), undef, undef], []⟩) (by kernel_rfl) ?_
              refine wpList_nil ?_
              refine hK39 n40 _ _ (Nat.lt_succ_self _) ?_
              exact ⟨f68, r46, (shr bit47 1), (fun i_ => [Value.int .u64 vt65, Value.int .u64 vt66, Value.int .u64 bit47, Value.bool true, Value.int .u64 bit47, Value.int .u64 (shr bit47 1), Value.tuple #[.int .u64 vt65, .int .u64 vt66], Value.int .u64 r46, Value.int .u64 bit47, Value.int .u64 (Go.bits .or .u64 r46 bit47), Value.int .u64 r46, Value.int .u64 bit47, Value.int .u64 (Go.bits .or .u64 r46 bit47), Value.tuple #[.int .u64 vt65, .int .u64 vt66], Value.int .u64 vt65, Value.int .u64 vt66, Value.int .u64 vt65, Value.int .u64 vt18, Value.bool false, Value.bool false, Value.int .u64 vt65, Value.int .u64 vt18, Value.bool true, Value.bool true, Value.int .u64 vt66, Value.int .u64 vt19, Value.bool false, Value.bool false, Value.bool false, (j45 29), (j45 30), (j45 31)].getD i_ undef), (L42.trans L69), HS71, h, (by kernel_rfl)⟩
          · have c75 : ¬ (vt65 = vt18) := c75
            refine seqRwI 45 (x := (vt65 == vt18)) (v := false) (by kernel_rfl) (beq_eq_false_iff_ne.mpr c75) ?_
            refine seqRwI 46 (x := (vt65 == vt18)) (v := false) (by kernel_rfl) (beq_eq_false_iff_ne.mpr c75) ?_
            refine seqS5 (a' := ⟨#[.int .i64 a1, .int .i64 b2, undef, undef, .int .i64 0, .int .u64 vt18, .int .u64 vt19, .int .u64 r46, .int .u64 bit47, .int .u64 vt65, .int .u64 vt66, .int .i64 a1, .bool false, .bool false, .int .i64 b2, .bool false, .bool false, .tuple #[.int .u64 vt18, .int .u64 vt19], .int .i64 a1, .int .u64 (u64 (a1)), .int .i64 b2, .int .u64 (u64 (b2)), .tuple #[.int .u64 vt18, .int .u64 vt19], .int .u64 vt18, .int .u64 vt19, .int .u64 bit47, .bool true, (j45 4), (j45 5), .tuple #[.int .u64 vt65, .int .u64 vt66], .int .u64 r46, .int .u64 bit47, .int .u64 (Go.bits .or .u64 r46 bit47), .int .u64 r46, .int .u64 bit47, .int .u64 (Go.bits .or .u64 r46 bit47), .tuple #[.int .u64 vt65, .int .u64 vt66], .int .u64 vt65, .int .u64 vt66, .int .u64 vt65, .int .u64 vt18, .bool false, .bool false, .int .u64 vt65, .int .u64 vt18, .bool false, .bool false, undef, undef, undef, .bool false, .bool false, (j45 29), (j45 30), (j45 31), undef, undef], []⟩) (by kernel_rfl) ?_
            refine wpList_nil ?_
            refine hK73 _ _ ?_
            refine condF (by kernel_rfl) ?_
            refine wp_skip ?_
            refine hn58 _ _ ?_
            refine hK55 _ _ ?_
            refine wp_region_lit ?_
            refine seqS3 (a' := ⟨#[.int .i64 a1, .int .i64 b2, undef, undef, .int .i64 0, .int .u64 vt18, .int .u64 vt19, .int .u64 r46, .int .u64 (shr bit47 1), .int .u64 vt65, .int .u64 vt66, .int .i64 a1, .bool false, .bool false, .int .i64 b2, .bool false, .bool false, .tuple #[.int .u64 vt18, .int .u64 vt19], .int .i64 a1, .int .u64 (u64 (a1)), .int .i64 b2, .int .u64 (u64 (b2)), .tuple #[.int .u64 vt18, .int .u64 vt19], .int .u64 vt18, .int .u64 vt19, .int .u64 bit47, .bool true, .int .u64 bit47, .int .u64 (shr bit47 1), .tuple #[.int .u64 vt65, .int .u64 vt66], .int .u64 r46, .int .u64 bit47, .int .u64 (Go.bits .or .u64 r46 bit47), .int .u64 r46, .int .u64 bit47, .int .u64 (Go.bits .or .u64 r46 bit47), .tuple #[.int .u64 vt65, .int .u64 vt66], .int .u64 vt65, .int .u64 vt66, .int .u64 vt65, .int .u64 vt18, .bool false, .bool false, .int .u64 vt65, .int .u64 vt18, .bool false, .bool false, undef, undef, undef, .bool false, .bool false, (j45 29), (j45 30), (j45 31), undef, undef], []⟩) (by kernel_rfl) ?_
            refine wpList_nil ?_
            refine hK39 n40 _ _ (Nat.lt_succ_self _) ?_
            exact ⟨f68, r46, (shr bit47 1), (fun i_ => [Value.int .u64 vt65, Value.int .u64 vt66, Value.int .u64 bit47, Value.bool true, Value.int .u64 bit47, Value.int .u64 (shr bit47 1), Value.tuple #[.int .u64 vt65, .int .u64 vt66], Value.int .u64 r46, Value.int .u64 bit47, Value.int .u64 (Go.bits .or .u64 r46 bit47), Value.int .u64 r46, Value.int .u64 bit47, Value.int .u64 (Go.bits .or .u64 r46 bit47), Value.tuple #[.int .u64 vt65, .int .u64 vt66], Value.int .u64 vt65, Value.int .u64 vt66, Value.int .u64 vt65, Value.int .u64 vt18, Value.bool false, Value.bool false, Value.int .u64 vt65, Value.int .u64 vt18, Value.bool false, Value.bool false, undef, undef, undef, Value.bool false, Value.bool false, (j45 29), (j45 30), (j45 31)].getD i_ undef), (L42.trans L69), HS71, h, (by kernel_rfl)⟩
      · have c53 : ¬ (bit47 > 0) := c53
        refine wpRwI 26 (x := (decide (bit47 > 0))) (v := false) (by kernel_rfl) (decide_eq_false c53) ?_
        refine condF (by kernel_rfl) ?_
        refine wp_exit ?_
        refine hx32 _ _ ?_
        exact J85 f41 r46 (fun i_ => [Value.int .u64 bit47, (j45 0), (j45 1), Value.int .u64 bit47, Value.bool false, (j45 4), (j45 5), (j45 6), (j45 7), (j45 8), (j45 9), (j45 10), (j45 11), (j45 12), (j45 13), (j45 14), (j45 15), (j45 16), (j45 17), (j45 18), (j45 19), (j45 20), (j45 21), (j45 22), (j45 23), (j45 24), (j45 25), (j45 26), (j45 27), (j45 28), (j45 29), (j45 30), (j45 31)].getD i_ undef) W43 _ L42 h HS44 (by kernel_rfl)

set_option maxRecDepth 100000 in
set_option maxHeartbeats 4000000 in
theorem num_Sqrt.calls (k : Nat)  (a1 : Int) {t w : World} {f : FM} {H : List Seg} (HS : St t w f (H)) (r1 : Int) (h : num_Sqrt k a1 = some r1) :
    Calls Try.prog 96 #[.int .i64 a1] w (fun e w' => ∃ (g : FM), e = .returned (Value.int .i64 r1) ∧ FM.le f g ∧ St t w' g (H)) := by
  unfold num_Sqrt at h
  refine enter Try.func96 rfl (tm := #[.int .i64 a1, undef, undef, undef, undef]) (by kernel_rfl) ?_
  intro B hret hnor hnp
  refine wp_seq_k (fun K2 hK3 => ?_)
  refine wp_region_lit ?_
  refine seqS1 (a' := ⟨#[.int .i64 a1, undef, .int .i64 0, undef, undef], []⟩) (by kernel_rfl) ?_
  refine wpList_nil ?_
  refine hK3 _ _ ?_
  refine wp_seq_k (fun K4 hK5 => ?_)
  refine wp_region_lit ?_
  have hq_ := bind_some h; clear h; obtain ⟨vt6, hc7, h⟩ := hq_
  refine seqL1 (by kernel_rfl) ?_
  refine seqK rfl (does_call (f := 117) (args := #[.int .i64 a1, .int .i64 1]) (by kernel_rfl) (num_SqrtMul.calls k a1 1 HS vt6 hc7) ?_)
  rintro _ W10 ⟨f8, rfl, L9, HS11⟩
  refine ⟨_, rfl, ?_⟩
  refine seqS1 (a' := ⟨#[.int .i64 a1, undef, .int .i64 vt6, .int .i64 a1, .int .i64 vt6], []⟩) (by kernel_rfl) ?_
  refine wpList_nil ?_
  refine hK5 _ _ ?_
  refine wp_ret ?_
  refine hret _ _ ?_
  refine ends_still (v := Value.int .i64 vt6) (by kernel_rfl) (by kernel_rfl) ?_
  injection h with h
  subst h
  exact ⟨f8, rfl, L9, HS11⟩

end Go.Sp.C5
