import Derived.Test.YtdogeeomknanpaaProg
import Derived.Test.YtdogeeomknanpaaSpTwo
import Derived.Test.YtdogeeomknanpaaFZ6
namespace Go.Sp.Z6
open Go Go.Sp Go.Proofs
set_option linter.unusedVariables false
attribute [local irreducible] wpList AnyL Code.wp Calls Does
def ty_Sensor : Ty S_Sensor where
  sz := 8
  rep := fun f cs x => ∃ (A2 : Option Addr) (c2 : Nat) (A3 : Option Addr) (c3 : Nat) (A4 : Option Addr) (c4 : Nat), cs = [.int .i64 x.W, .int .i64 x.H, .slice A2 x.Bias.length c2, .slice A3 x.Dark.length c3, .slice A4 x.Flat.length c4, .int .i64 x.Full, .int .i64 x.Gain, .int .i64 x.Noise] ∧ SlR (tInt .i64) f A2 c2 x.Bias ∧ SlR (tInt .i64) f A3 c3 x.Dark ∧ SlR (tInt .i64) f A4 c4 x.Flat
  pos := by decide
  len := by rintro f cs x ⟨A2, c2, A3, c3, A4, c4, rfl, h2, h3, h4⟩; rfl
  mono := by rintro f g cs x hl ⟨A2, c2, A3, c3, A4, c4, rfl, h2, h3, h4⟩; exact ⟨A2, c2, A3, c3, A4, c4, rfl, h2.mono hl, h3.mono hl, h4.mono hl⟩
  one := by
    rintro f cs x ⟨A2, c2, A3, c3, A4, c4, rfl, h2, h3, h4⟩ v hv
    simp only [List.mem_cons, List.not_mem_nil, or_false] at hv
    rcases hv with rfl | rfl | rfl | rfl | rfl | rfl | rfl | rfl <;> rfl
def ty_Wide : Ty S_Wide where
  sz := 2
  rep := fun f cs x => cs = [.int .i64 x.Hi, .int .u64 x.Lo]
  pos := by decide
  len := by rintro f cs x rfl; rfl
  mono := by rintro f g cs x hl rfl; exact rfl
  one := by
    rintro f cs x rfl v hv
    simp only [List.mem_cons, List.not_mem_nil, or_false] at hv
    rcases hv with rfl | rfl <;> rfl
def ty_Bound : Ty S_Bound where
  sz := 3
  rep := fun f cs x => cs = [.int .i64 x.Lo, .int .i64 x.Hi, .bool x.Unknown]
  pos := by decide
  len := by rintro f cs x rfl; rfl
  mono := by rintro f g cs x hl rfl; exact rfl
  one := by
    rintro f cs x rfl v hv
    simp only [List.mem_cons, List.not_mem_nil, or_false] at hv
    rcases hv with rfl | rfl | rfl <;> rfl
theorem inf52 : Inf Try.prog 52 1 8 (.int .i64 0) := .mk' (by kernel_rfl) rfl

set_option maxRecDepth 100000 in
set_option maxHeartbeats 4000000 in
theorem spymake_Below.calls (k : Nat)  (x1 : Int) (n2 : Int) {t w : World} {f : FM} {H : List Seg} (HS : St t w f (H)) (r1 : Int) (h : spymake_Below k x1 n2 = some r1) :
    Calls Try.prog 10 #[.int .i64 x1, .int .i64 n2] w (fun e w' => ∃ (g : FM), e = .returned (Value.int .i64 r1) ∧ FM.le f g ∧ St t w' g (H)) := by
  unfold spymake_Below at h
  refine enter Try.func10 rfl (tm := #[.int .i64 x1, .int .i64 n2, undef, undef, undef, undef, undef, undef, undef, undef, undef, undef, undef, undef, undef, undef]) (by kernel_rfl) ?_
  intro B hret hnor hnp
  refine wp_seq_k (fun K3 hK4 => ?_)
  refine wp_region_lit ?_
  refine seqS1 (a' := ⟨#[.int .i64 x1, .int .i64 n2, undef, undef, .int .i64 0, undef, undef, undef, undef, undef, undef, undef, undef, undef, undef, undef], []⟩) (by kernel_rfl) ?_
  refine wpList_nil ?_
  refine hK4 _ _ ?_
  refine wp_seq_k (fun K5 hK6 => ?_)
  refine wp_seq_k (fun K7 hK8 => ?_)
  refine wp_region_lit ?_
  refine seqS2 (a' := ⟨#[.int .i64 x1, .int .i64 n2, undef, undef, .int .i64 0, .int .i64 n2, .bool (decide (n2 < 1)), undef, undef, undef, undef, undef, undef, undef, undef, undef], []⟩) (by kernel_rfl) ?_
  refine wpList_nil ?_
  refine hK8 _ _ ?_
  have hq_ := ite_some h; clear h; rcases hq_ with ⟨c10, h⟩ | ⟨c10, h⟩
  · have c10 : n2 < 1 := c10
    refine wpRwI 6 (x := (decide (n2 < 1))) (v := true) (by kernel_rfl) (decide_eq_true c10) ?_
    refine condT (by kernel_rfl) ?_
    refine wp_seq_k (fun K11 hK12 => ?_)
    refine wp_region_lit ?_
    refine seqS1 (a' := ⟨#[.int .i64 x1, .int .i64 n2, undef, undef, .int .i64 0, .int .i64 n2, .bool true, undef, undef, undef, undef, undef, undef, undef, undef, undef], []⟩) (by kernel_rfl) ?_
    refine wpList_nil ?_
    refine hK12 _ _ ?_
    refine wp_ret ?_
    refine hret _ _ ?_
    refine ends_still (v := Value.int .i64 0) (by kernel_rfl) (by kernel_rfl) ?_
    injection h with h
    subst h
    exact ⟨f, rfl, FM.le.refl _, HS⟩
  · have c10 : ¬ (n2 < 1) := c10
    refine wpRwI 6 (x := (decide (n2 < 1))) (v := false) (by kernel_rfl) (decide_eq_false c10) ?_
    refine condF (by kernel_rfl) ?_
    refine wp_skip ?_
    refine hK6 _ _ ?_
    refine wp_seq_k (fun K13 hK14 => ?_)
    refine wp_region_lit ?_
    have hq_ := guard_some h; clear h; obtain ⟨c15, h⟩ := hq_
    have c15 : ¬ (n2 = 0) := c15
    refine seqL2 (by kernel_rfl) ?_
    refine seqK rfl (does_run (run_rem rfl (by kernel_rfl : _ = Value.int .i64 x1) (by kernel_rfl : _ = Value.int .i64 n2) c15 w) ?_)
    refine seqS1 (a' := ⟨#[.int .i64 (Int.tmod x1 n2), .int .i64 n2, undef, undef, .int .i64 0, .int .i64 n2, .bool false, .int .i64 x1, .int .i64 n2, .int .i64 (Int.tmod x1 n2), undef, undef, undef, undef, undef, undef], []⟩) (by kernel_rfl) ?_
    refine wpList_nil ?_
    refine hK14 _ _ ?_
    refine wp_seq_k (fun K16 hK17 => ?_)
    refine wp_seq_k (fun K18 hK19 => ?_)
    refine wp_region_lit ?_
    refine seqS2 (a' := ⟨#[.int .i64 (Int.tmod x1 n2), .int .i64 n2, undef, undef, .int .i64 0, .int .i64 n2, .bool false, .int .i64 x1, .int .i64 n2, .int .i64 (Int.tmod x1 n2), .int .i64 (Int.tmod x1 n2), .bool (decide ((Int.tmod x1 n2) < 0)), undef, undef, undef, undef], []⟩) (by kernel_rfl) ?_
    refine wpList_nil ?_
    refine hK19 _ _ ?_
    have hq_ := ite_some h; clear h; rcases hq_ with ⟨c21, h⟩ | ⟨c21, h⟩
    · have c21 : (Int.tmod x1 n2) < 0 := c21
      refine wpRwI 11 (x := (decide ((Int.tmod x1 n2) < 0))) (v := true) (by kernel_rfl) (decide_eq_true c21) ?_
      refine condT (by kernel_rfl) ?_
      refine wp_region_lit ?_
      refine seqS4 (a' := ⟨#[.int .i64 (w64 ((Int.tmod x1 n2) + n2)), .int .i64 n2, undef, undef, .int .i64 0, .int .i64 n2, .bool false, .int .i64 x1, .int .i64 n2, .int .i64 (Int.tmod x1 n2), .int .i64 (Int.tmod x1 n2), .bool true, .int .i64 (Int.tmod x1 n2), .int .i64 n2, .int .i64 (w64 ((Int.tmod x1 n2) + n2)), undef], []⟩) (by kernel_rfl) ?_
      refine wpList_nil ?_
      refine hK17 _ _ ?_
      refine wp_seq_k (fun K22 hK23 => ?_)
      refine wp_region_lit ?_
      refine seqS2 (a' := ⟨#[.int .i64 (w64 ((Int.tmod x1 n2) + n2)), .int .i64 n2, undef, undef, .int .i64 (w64 ((Int.tmod x1 n2) + n2)), .int .i64 n2, .bool false, .int .i64 x1, .int .i64 n2, .int .i64 (Int.tmod x1 n2), .int .i64 (Int.tmod x1 n2), .bool true, .int .i64 (Int.tmod x1 n2), .int .i64 n2, .int .i64 (w64 ((Int.tmod x1 n2) + n2)), .int .i64 (w64 ((Int.tmod x1 n2) + n2))], []⟩) (by kernel_rfl) ?_
      refine wpList_nil ?_
      refine hK23 _ _ ?_
      refine wp_ret ?_
      refine hret _ _ ?_
      refine ends_still (v := Value.int .i64 (w64 ((Int.tmod x1 n2) + n2))) (by kernel_rfl) (by kernel_rfl) ?_
      injection h with h
      subst h
      exact ⟨f, rfl, FM.le.refl _, HS⟩
    · have c21 : ¬ ((Int.tmod x1 n2) < 0) := c21
      refine wpRwI 11 (x := (decide ((Int.tmod x1 n2) < 0))) (v := false) (by kernel_rfl) (decide_eq_false c21) ?_
      refine condF (by kernel_rfl) ?_
      refine wp_skip ?_
      refine hK17 _ _ ?_
      refine wp_seq_k (fun K24 hK25 => ?_)
      refine wp_region_lit ?_
      refine seqS2 (a' := ⟨#[.int .i64 (Int.tmod x1 n2), .int .i64 n2, undef, undef, .int .i64 (Int.tmod x1 n2), .int .i64 n2, .bool false, .int .i64 x1, .int .i64 n2, .int .i64 (Int.tmod x1 n2), .int .i64 (Int.tmod x1 n2), .bool false, undef, undef, undef, .int .i64 (Int.tmod x1 n2)], []⟩) (by kernel_rfl) ?_
      refine wpList_nil ?_
      refine hK25 _ _ ?_
      refine wp_ret ?_
      refine hret _ _ ?_
      refine ends_still (v := Value.int .i64 (Int.tmod x1 n2)) (by kernel_rfl) (by kernel_rfl) ?_
      injection h with h
      subst h
      exact ⟨f, rfl, FM.le.refl _, HS⟩

set_option maxRecDepth 100000 in
set_option maxHeartbeats 4000000 in
theorem sensor_outside_int_1.calls (k : Nat) (b1 : Nat) (v3 : Int) (x4 : Int) {t w : World} {f : FM} {H : List Seg} (HS : St t w f ([(b1, .cells #[.int .i64 v3] 3 (0, 0))] :: H)) (r1 : Bool) (h : sensor_outside_int_1 k v3 x4 = some r1) :
    Calls Try.prog 135 #[.int .i64 x4, .pointer (some ⟨b1, 0, none⟩)] w (fun e w' => ∃ (g : FM), e = .returned (Value.bool r1) ∧ FM.le f g ∧ St t w' g ([(b1, .cells #[.int .i64 v3] 3 (0, 0))] :: H)) := by
  unfold sensor_outside_int_1 at h
  refine enter Try.func135 rfl (tm := #[.int .i64 x4, .pointer (some ⟨b1, 0, none⟩), undef, undef, undef, undef, undef, undef, undef, undef, undef]) (by kernel_rfl) ?_
  intro B hret hnor hnp
  refine wp_seq_k (fun K5 hK6 => ?_)
  refine wp_region_lit ?_
  refine seqS1 (a' := ⟨#[.int .i64 x4, .pointer (some ⟨b1, 0, none⟩), undef, .bool false, undef, undef, undef, undef, undef, undef, undef], []⟩) (by kernel_rfl) ?_
  refine wpList_nil ?_
  refine hK6 _ _ ?_
  refine wp_seq_k (fun K7 hK8 => ?_)
  refine wp_region_lit ?_
  refine seqS3 (a' := ⟨#[.int .i64 x4, .pointer (some ⟨b1, 0, none⟩), undef, .bool false, .int .i64 x4, .bool (decide (x4 < 0)), .bool (decide (x4 < 0)), undef, undef, undef, undef], []⟩) (by kernel_rfl) ?_
  have hq_ := ite_some h; clear h; rcases hq_ with ⟨c9, h⟩ | ⟨c9, h⟩
  · have c9 : x4 < 0 := c9
    refine seqRwI 5 (x := (decide (x4 < 0))) (v := true) (by kernel_rfl) (decide_eq_true c9) ?_
    refine seqRwI 6 (x := (decide (x4 < 0))) (v := true) (by kernel_rfl) (decide_eq_true c9) ?_
    refine seqS5 (a' := ⟨#[.int .i64 x4, .pointer (some ⟨b1, 0, none⟩), undef, .bool true, .int .i64 x4, .bool true, .bool true, undef, undef, undef, .bool true], []⟩) (by kernel_rfl) ?_
    refine wpList_nil ?_
    refine hK8 _ _ ?_
    refine wp_ret ?_
    refine hret _ _ ?_
    refine ends_still (v := Value.bool true) (by kernel_rfl) (by kernel_rfl) ?_
    injection h with h
    subst h
    exact ⟨f, rfl, FM.le.refl _, HS⟩
  · have c9 : ¬ (x4 < 0) := c9
    refine seqRwI 5 (x := (decide (x4 < 0))) (v := false) (by kernel_rfl) (decide_eq_false c9) ?_
    refine seqRwI 6 (x := (decide (x4 < 0))) (v := false) (by kernel_rfl) (decide_eq_false c9) ?_
    refine seqL1 (by kernel_rfl) ?_
    refine seqG (by kernel_rfl) (does_run (run_load rfl Try.underlying3 rfl (by kernel_rfl : _ = Value.pointer (some ⟨b1, 0, none⟩)) (HS.cell 0)) ?_)
    refine seqS3 (a' := ⟨#[.int .i64 x4, .pointer (some ⟨b1, 0, none⟩), undef, .bool (decide (x4 > v3)), .int .i64 x4, .bool false, .bool false, .int .i64 x4, .int .i64 v3, .bool (decide (x4 > v3)), .bool (decide (x4 > v3))], []⟩) (by kernel_rfl) ?_
    refine wpList_nil ?_
    refine hK8 _ _ ?_
    refine wp_ret ?_
    refine hret _ _ ?_
    refine ends_still (v := Value.bool (decide (x4 > v3))) (by kernel_rfl) (by kernel_rfl) ?_
    injection h with h
    subst h
    exact ⟨f, rfl, FM.le.refl _, HS⟩

set_option maxRecDepth 100000 in
set_option maxHeartbeats 4000000 in
theorem slices_IndexFunc_int__sensor_outside_int_1.calls (k : Nat) (b1 : Nat) (A5 : Option Addr) (c6 : Nat) (v3 : Int) (s4 : List Int) {t w : World} {f : FM} {H : List Seg} (HS : St t w f ([(b1, .cells #[.int .i64 v3] 3 (0, 0))] :: H)) (HR7 : SlR (tInt .i64) f A5 c6 s4) (r1 : Int) (h : slices_IndexFunc_int__sensor_outside_int_1 k v3 s4 = some r1) :
    Calls Try.prog 144 #[.slice A5 s4.length c6, .func (.func 135) #[] #[.pointer (some ⟨b1, 0, none⟩)]] w (fun e w' => ∃ (g : FM), e = .returned (Value.int .i64 r1) ∧ FM.le f g ∧ St t w' g ([(b1, .cells #[.int .i64 v3] 3 (0, 0))] :: H)) := by
  unfold slices_IndexFunc_int__sensor_outside_int_1 at h
  refine enter Try.func144 rfl (tm := #[.slice A5 s4.length c6, .func (.func 135) #[] #[.pointer (some ⟨b1, 0, none⟩)], undef, undef, undef, undef, undef, undef, undef, undef, undef, undef, undef, undef, undef, undef, undef, undef, undef]) (by kernel_rfl) ?_
  intro B hret hnor hnp
  refine wp_seq_k (fun K8 hK9 => ?_)
  refine wp_region_lit ?_
  refine seqS1 (a' := ⟨#[.slice A5 s4.length c6, .func (.func 135) #[] #[.pointer (some ⟨b1, 0, none⟩)], undef, undef, .int .i64 0, undef, undef, undef, undef, undef, undef, undef, undef, undef, undef, undef, undef, undef, undef], []⟩) (by kernel_rfl) ?_
  refine wpList_nil ?_
  refine hK9 _ _ ?_
  refine wp_seq_k (fun K10 hK11 => ?_)
  refine wp_seq_k (fun K12 hK13 => ?_)
  refine wp_region_lit ?_
  refine seqS3 (a' := ⟨#[.slice A5 s4.length c6, .func (.func 135) #[] #[.pointer (some ⟨b1, 0, none⟩)], undef, undef, .int .i64 0, undef, .slice A5 s4.length c6, .int .i64 (s4.length : Int), .int .i64 0, undef, undef, undef, undef, undef, undef, undef, undef, undef, undef], []⟩) (by kernel_rfl) ?_
  refine wpList_nil ?_
  refine hK13 _ _ ?_
  refine blockK (fun B14 hx15 hn16 hr17 ho18 hp19 => ?_)
  have hq_ := bind_some h; clear h; obtain ⟨o20, hv70, h⟩ := hq_
  have JR72 : ∀ z_, some (Sum.inl z_) = some o20 → some z_ = some r1 := by
    intro z_ e_; injection e_ with e_; subst e_; exact h
  have J71 : ∀ (f65 : FM) (j69 : Nat → Value) (W67 : World) (a_ : Act), FM.le f f65 → some (Sum.inr ()) = some o20 → St t W67 f65 ([(b1, .cells #[.int .i64 v3] 3 (0, 0))] :: H) → a_ = ⟨#[.slice A5 s4.length c6, .func (.func 135) #[] #[.pointer (some ⟨b1, 0, none⟩)], undef, undef, (j69 0), (j69 1), .slice A5 s4.length c6, .int .i64 (s4.length : Int), (j69 2), (j69 3), (j69 4), (j69 5), (j69 6), (j69 7), (j69 8), (j69 9), (j69 10), (j69 11), (j69 12)], []⟩ → K10 a_ W67 := by
    intro f65 j69 W67 a_ L66 hj73 HS68  hfr_; subst hfr_
    injection hj73 with hj73; subst hj73; try dsimp only at h
    simp only [Sum.elim_inr] at h
    refine hK11 _ _ ?_
    refine wp_seq_k (fun K74 hK75 => ?_)
    refine wp_region_lit ?_
    refine seqS1 (a' := ⟨#[.slice A5 s4.length c6, .func (.func 135) #[] #[.pointer (some ⟨b1, 0, none⟩)], undef, undef, .int .i64 (-1), (j69 1), .slice A5 s4.length c6, .int .i64 (s4.length : Int), (j69 2), (j69 3), (j69 4), (j69 5), (j69 6), (j69 7), (j69 8), (j69 9), (j69 10), (j69 11), (j69 12)], []⟩) (by kernel_rfl) ?_
    refine wpList_nil ?_
    refine hK75 _ _ ?_
    refine wp_ret ?_
    refine hret _ _ ?_
    refine ends_still (v := Value.int .i64 (-1)) (by kernel_rfl) (by kernel_rfl) ?_
    injection h with h
    subst h
    exact ⟨f65, rfl, L66, HS68⟩
  clear h; have h := hv70; clear hv70
  refine loopK (fun n_ a_ w_ => ∃ (f24 : FM) (x29 : Int) (j28 : Nat → Value), FM.le f f24 ∧ St t w_ f24 ([(b1, .cells #[.int .i64 v3] 3 (0, 0))] :: H) ∧ slices_IndexFunc_int__sensor_outside_int_1.l0 k s4 v3 n_ x29 = some o20 ∧ a_ = ⟨#[.slice A5 s4.length c6, .func (.func 135) #[] #[.pointer (some ⟨b1, 0, none⟩)], undef, undef, (j28 0), (j28 1), .slice A5 s4.length c6, .int .i64 (s4.length : Int), .int .i64 x29, (j28 2), (j28 3), (j28 4), (j28 5), (j28 6), (j28 7), (j28 8), (j28 9), (j28 10), (j28 11)], []⟩) k ⟨f, 0, (fun i_ => [Value.int .i64 0, undef, undef, undef, undef, undef, undef, undef, undef, undef, undef, undef].getD i_ undef), (FM.le.refl _), HS, h, (by kernel_rfl)⟩ ?_
  clear h
  rintro n23 _ W26 ⟨f24, x29, j28, L25, HS27, h, rfl⟩ K21 hK22
  obtain _ | n23 := n23
  · exact nomatch h
  simp only [slices_IndexFunc_int__sensor_outside_int_1.l0] at h
  refine wp_seq_k (fun K30 hK31 => ?_)
  refine wp_region_lit ?_
  refine seqS1 (a' := ⟨#[.slice A5 s4.length c6, .func (.func 135) #[] #[.pointer (some ⟨b1, 0, none⟩)], undef, undef, (j28 0), (j28 1), .slice A5 s4.length c6, .int .i64 (s4.length : Int), .int .i64 x29, .bool (decide (x29 < (s4.length : Int))), (j28 3), (j28 4), (j28 5), (j28 6), (j28 7), (j28 8), (j28 9), (j28 10), (j28 11)], []⟩) (by kernel_rfl) ?_
  refine wpList_nil ?_
  refine hK31 _ _ ?_
  refine wp_seq_k (fun K32 hK33 => ?_)
  have hq_ := ite_some h; clear h; rcases hq_ with ⟨c35, h⟩ | ⟨c35, h⟩
  · have c35 : x29 < (s4.length : Int) := c35
    refine wpRwI 9 (x := (decide (x29 < (s4.length : Int)))) (v := true) (by kernel_rfl) (decide_eq_true c35) ?_
    refine condT (by kernel_rfl) ?_
    refine wp_skip ?_
    refine hK33 _ _ ?_
    refine wp_seq_k (fun K36 hK37 => ?_)
    refine blockK (fun B38 hx39 hn40 hr41 ho42 hp43 => ?_)
    refine wp_seq_k (fun K45 hK46 => ?_)
    refine wp_region_lit ?_
    refine seqS2 (a' := ⟨#[.slice A5 s4.length c6, .func (.func 135) #[] #[.pointer (some ⟨b1, 0, none⟩)], undef, undef, (j28 0), .int .i64 x29, .slice A5 s4.length c6, .int .i64 (s4.length : Int), .int .i64 x29, .bool true, .int .i64 x29, (j28 4), (j28 5), (j28 6), (j28 7), (j28 8), (j28 9), (j28 10), (j28 11)], []⟩) (by kernel_rfl) ?_
    refine wpList_nil ?_
    refine hK46 _ _ ?_
    refine wp_seq_k (fun K47 hK48 => ?_)
    refine wp_region_lit ?_
    have hq_ := guard_some h; clear h; obtain ⟨c49, h⟩ := hq_
    have c49 : 0 ≤ x29 := c49
    obtain ⟨b53, of54, cs50, rfl, hr51, hc52⟩ := (HR7.mono L25).at (i := x29) c49 c35
    obtain rfl := hr51
    refine seqL3 (by kernel_rfl) ?_
    refine seqK rfl (does_run (run_index (sz := 1) rfl Try.underlying22 (by kernel_rfl) (by kernel_rfl : _ = Value.slice (some ⟨b53, of54, none⟩) s4.length c6) (by kernel_rfl : _ = Value.int .i64 x29) c49 c35 W26) ?_)
    refine seqK rfl (does_run (run_load rfl Try.underlying3 rfl (by kernel_rfl : _ = Value.pointer (some ⟨b53, of54 + (x29 : Int).toNat * 1, none⟩)) ((hc52 (FM.le.refl _) HS27) 0 (by decide))) ?_)
    have hq_ := bind_some h; clear h; obtain ⟨vt55, hc56, h⟩ := hq_
    refine seqK rfl (does_call (f := 135) (args := #[.int .i64 (rd s4 x29), .pointer (some ⟨b1, 0, none⟩)]) (by kernel_rfl) (sensor_outside_int_1.calls k b1 v3 (rd s4 x29) HS27 vt55 hc56) ?_)
    rintro _ W59 ⟨f57, rfl, L58, HS60⟩
    refine ⟨_, rfl, ?_⟩
    refine wpList_nil ?_
    refine hK48 _ _ ?_
    have hq_ := ite_some h; clear h; rcases hq_ with ⟨c62, h⟩ | ⟨c62, h⟩
    · have c62 : vt55 = true := c62
      refine wpRwI 16 (x := vt55) (v := true) (by kernel_rfl) c62 ?_
      refine condT (by kernel_rfl) ?_
      refine wp_seq_k (fun K63 hK64 => ?_)
      refine wp_region_lit ?_
      refine seqS2 (a' := ⟨#[.slice (some ⟨b53, of54, none⟩) s4.length c6, .func (.func 135) #[] #[.pointer (some ⟨b1, 0, none⟩)], undef, undef, .int .i64 x29, .int .i64 x29, .slice (some ⟨b53, of54, none⟩) s4.length c6, .int .i64 (s4.length : Int), .int .i64 x29, .bool true, .int .i64 x29, .func (.func 135) #[] #[.pointer (some ⟨b1, 0, none⟩)], .slice (some ⟨b53, of54, none⟩) s4.length c6, .int .i64 x29, .pointer (some ⟨b53, of54 + (x29 : Int).toNat * 1, none⟩), .int .i64 (rd s4 x29), .bool true, .int .i64 x29, (j28 11)], []⟩) (by kernel_rfl) ?_
      refine wpList_nil ?_
      refine hK64 _ _ ?_
      refine wp_ret ?_
      refine hr41 _ _ ?_
      refine hr17 _ _ ?_
      refine hret _ _ ?_
      refine ends_still (v := Value.int .i64 x29) (by kernel_rfl) (by kernel_rfl) ?_
      replace h := JR72 _ h
      injection h with h
      subst h
      exact ⟨f57, rfl, (L25.trans L58), HS60⟩
    · have c62 : ¬ (vt55 = true) := c62
      refine wpRwI 16 (x := vt55) (v := false) (by kernel_rfl) (Bool.eq_false_iff.mpr c62) ?_
      refine condF (by kernel_rfl) ?_
      refine wp_skip ?_
      refine hn40 _ _ ?_
      refine hK37 _ _ ?_
      refine wp_region_lit ?_
      refine seqS2 (a' := ⟨#[.slice (some ⟨b53, of54, none⟩) s4.length c6, .func (.func 135) #[] #[.pointer (some ⟨b1, 0, none⟩)], undef, undef, (j28 0), .int .i64 x29, .slice (some ⟨b53, of54, none⟩) s4.length c6, .int .i64 (s4.length : Int), .int .i64 (w64 (x29 + 1)), .bool true, .int .i64 x29, .func (.func 135) #[] #[.pointer (some ⟨b1, 0, none⟩)], .slice (some ⟨b53, of54, none⟩) s4.length c6, .int .i64 x29, .pointer (some ⟨b53, of54 + (x29 : Int).toNat * 1, none⟩), .int .i64 (rd s4 x29), .bool false, (j28 10), .int .i64 (w64 (x29 + 1))], []⟩) (by kernel_rfl) ?_
      refine wpList_nil ?_
      refine hK22 n23 _ _ (Nat.lt_succ_self _) ?_
      exact ⟨f57, (w64 (x29 + 1)), (fun i_ => [(j28 0), Value.int .i64 x29, Value.bool true, Value.int .i64 x29, Value.func (.func 135) #[] #[.pointer (some ⟨b1, 0, none⟩)], Value.slice (some ⟨b53, of54, none⟩) s4.length c6, Value.int .i64 x29, Value.pointer (some ⟨b53, of54 + (x29 : Int).toNat * 1, none⟩), Value.int .i64 (rd s4 x29), Value.bool false, (j28 10), Value.int .i64 (w64 (x29 + 1))].getD i_ undef), (L25.trans L58), HS60, h, (by kernel_rfl)⟩
  · have c35 : ¬ (x29 < (s4.length : Int)) := c35
    refine wpRwI 9 (x := (decide (x29 < (s4.length : Int)))) (v := false) (by kernel_rfl) (decide_eq_false c35) ?_
    refine condF (by kernel_rfl) ?_
    refine wp_exit ?_
    refine hx15 _ _ ?_
    exact J71 f24 (fun i_ => [(j28 0), (j28 1), Value.int .i64 x29, Value.bool false, (j28 3), (j28 4), (j28 5), (j28 6), (j28 7), (j28 8), (j28 9), (j28 10), (j28 11)].getD i_ undef) W26 _ L25 h HS27 (by kernel_rfl)

set_option maxRecDepth 100000 in
set_option maxHeartbeats 4000000 in
theorem slices_ContainsFunc_int__sensor_outside_int_1.calls (k : Nat) (b1 : Nat) (A5 : Option Addr) (c6 : Nat) (v3 : Int) (s4 : List Int) {t w : World} {f : FM} {H : List Seg} (HS : St t w f ([(b1, .cells #[.int .i64 v3] 3 (0, 0))] :: H)) (HR7 : SlR (tInt .i64) f A5 c6 s4) (r1 : Bool) (h : slices_ContainsFunc_int__sensor_outside_int_1 k v3 s4 = some r1) :
    Calls Try.prog 134 #[.slice A5 s4.length c6, .func (.func 135) #[] #[.pointer (some ⟨b1, 0, none⟩)]] w (fun e w' => ∃ (g : FM), e = .returned (Value.bool r1) ∧ FM.le f g ∧ St t w' g ([(b1, .cells #[.int .i64 v3] 3 (0, 0))] :: H)) := by
  unfold slices_ContainsFunc_int__sensor_outside_int_1 at h
  refine enter Try.func134 rfl (tm := #[.slice A5 s4.length c6, .func (.func 135) #[] #[.pointer (some ⟨b1, 0, none⟩)], undef, undef, undef, undef, undef, undef, undef]) (by kernel_rfl) ?_
  intro B hret hnor hnp
  refine wp_seq_k (fun K8 hK9 => ?_)
  refine wp_region_lit ?_
  refine seqS1 (a' := ⟨#[.slice A5 s4.length c6, .func (.func 135) #[] #[.pointer (some ⟨b1, 0, none⟩)], undef, undef, .bool false, undef, undef, undef, undef], []⟩) (by kernel_rfl) ?_
  refine wpList_nil ?_
  refine hK9 _ _ ?_
  refine wp_seq_k (fun K10 hK11 => ?_)
  refine wp_region_lit ?_
  have hq_ := bind_some h; clear h; obtain ⟨vt12, hc13, h⟩ := hq_
  refine seqL2 (by kernel_rfl) ?_
  refine seqK rfl (does_call (f := 144) (args := #[.slice A5 s4.length c6, .func (.func 135) #[] #[.pointer (some ⟨b1, 0, none⟩)]]) (by kernel_rfl) (slices_IndexFunc_int__sensor_outside_int_1.calls k b1 A5 c6 v3 s4 HS HR7 vt12 hc13) ?_)
  rintro _ W16 ⟨f14, rfl, L15, HS17⟩
  refine ⟨_, rfl, ?_⟩
  refine seqS2 (a' := ⟨#[.slice A5 s4.length c6, .func (.func 135) #[] #[.pointer (some ⟨b1, 0, none⟩)], undef, undef, .bool (decide (vt12 ≥ 0)), .slice A5 s4.length c6, .func (.func 135) #[] #[.pointer (some ⟨b1, 0, none⟩)], .int .i64 vt12, .bool (decide (vt12 ≥ 0))], []⟩) (by kernel_rfl) ?_
  refine wpList_nil ?_
  refine hK11 _ _ ?_
  refine wp_ret ?_
  refine hret _ _ ?_
  refine ends_still (v := Value.bool (decide (vt12 ≥ 0))) (by kernel_rfl) (by kernel_rfl) ?_
  injection h with h
  subst h
  exact ⟨f14, rfl, L15, HS17⟩

set_option maxRecDepth 100000 in
set_option maxHeartbeats 4000000 in
theorem sensor_outside_int.calls (k : Nat) (A2 : Option Addr) (c3 : Nat) (l1 : List Int) (most5 : Int) {t w : World} {f : FM} {H : List Seg} (HS : St t w f (H)) (HR4 : SlR (tInt .i64) f A2 c3 l1) (r1 : Bool) (h : sensor_outside_int k l1 most5 = some r1) :
    Calls Try.prog 115 #[.slice A2 l1.length c3, .int .i64 most5] w (fun e w' => ∃ (g : FM), e = .returned (Value.bool r1) ∧ FM.le f g ∧ St t w' g (H)) := by
  unfold sensor_outside_int at h
  refine enter Try.func115 rfl (tm := #[.slice A2 l1.length c3, .int .i64 most5, undef, undef, undef, undef, undef, undef]) (by kernel_rfl) ?_
  intro B hret hnor hnp
  refine wp_seq_k (fun K6 hK7 => ?_)
  refine wp_region_lit ?_
  refine seqK rfl (does_box (cs := #[.int .i64 most5]) rfl (by kernel_rfl : _ = Value.int .i64 most5) rfl HS ?_)
  intro b8 W9 HS10
  refine seqS1 (a' := ⟨#[.slice A2 l1.length c3, .int .i64 most5, undef, .pointer (some ⟨b8, 0, none⟩), .bool false, undef, undef, undef], []⟩) (by kernel_rfl) ?_
  refine wpList_nil ?_
  refine hK7 _ _ ?_
  refine wp_seq_k (fun K12 hK13 => ?_)
  refine wp_region_lit ?_
  have hq_ := bind_some h; clear h; obtain ⟨vt14, hc15, h⟩ := hq_
  refine seqL2 (by kernel_rfl) ?_
  refine seqK rfl (does_call (f := 134) (args := #[.slice A2 l1.length c3, .func (.func 135) #[] #[.pointer (some ⟨b8, 0, none⟩)]]) (by kernel_rfl) (slices_ContainsFunc_int__sensor_outside_int_1.calls k b8 A2 c3 most5 l1 HS10 HR4 vt14 hc15) ?_)
  rintro _ W18 ⟨f16, rfl, L17, HS19⟩
  refine ⟨_, rfl, ?_⟩
  refine seqS1 (a' := ⟨#[.slice A2 l1.length c3, .int .i64 most5, undef, .pointer (some ⟨b8, 0, none⟩), .bool vt14, .slice A2 l1.length c3, .func (.func 135) #[] #[.pointer (some ⟨b8, 0, none⟩)], .bool vt14], []⟩) (by kernel_rfl) ?_
  refine wpList_nil ?_
  refine hK13 _ _ ?_
  refine wp_ret ?_
  refine hret _ _ ?_
  refine ends_still (v := Value.bool vt14) (by kernel_rfl) (by kernel_rfl) ?_
  have HS20 := HS19.drop
  injection h with h
  subst h
  exact ⟨f16, rfl, L17, HS20⟩

set_option maxRecDepth 100000 in
set_option maxHeartbeats 4000000 in
theorem sensor_outside_Light_1.calls (k : Nat) (b1 : Nat) (v3 : Int) (x4 : Int) {t w : World} {f : FM} {H : List Seg} (HS : St t w f ([(b1, .cells #[.int .i64 v3] 52 (0, 0))] :: H)) (r1 : Bool) (h : sensor_outside_Light_1 k v3 x4 = some r1) :
    Calls Try.prog 95 #[.int .i64 x4, .pointer (some ⟨b1, 0, none⟩)] w (fun e w' => ∃ (g : FM), e = .returned (Value.bool r1) ∧ FM.le f g ∧ St t w' g ([(b1, .cells #[.int .i64 v3] 52 (0, 0))] :: H)) := by
  unfold sensor_outside_Light_1 at h
  refine enter Try.func95 rfl (tm := #[.int .i64 x4, .pointer (some ⟨b1, 0, none⟩), undef, undef, undef, undef, undef, undef, undef, undef, undef]) (by kernel_rfl) ?_
  intro B hret hnor hnp
  refine wp_seq_k (fun K5 hK6 => ?_)
  refine wp_region_lit ?_
  refine seqS1 (a' := ⟨#[.int .i64 x4, .pointer (some ⟨b1, 0, none⟩), undef, .bool false, undef, undef, undef, undef, undef, undef, undef], []⟩) (by kernel_rfl) ?_
  refine wpList_nil ?_
  refine hK6 _ _ ?_
  refine wp_seq_k (fun K7 hK8 => ?_)
  refine wp_region_lit ?_
  refine seqS3 (a' := ⟨#[.int .i64 x4, .pointer (some ⟨b1, 0, none⟩), undef, .bool false, .int .i64 x4, .bool (decide (x4 < 0)), .bool (decide (x4 < 0)), undef, undef, undef, undef], []⟩) (by kernel_rfl) ?_
  have hq_ := ite_some h; clear h; rcases hq_ with ⟨c9, h⟩ | ⟨c9, h⟩
  · have c9 : x4 < 0 := c9
    refine seqRwI 5 (x := (decide (x4 < 0))) (v := true) (by kernel_rfl) (decide_eq_true c9) ?_
    refine seqRwI 6 (x := (decide (x4 < 0))) (v := true) (by kernel_rfl) (decide_eq_true c9) ?_
    refine seqS5 (a' := ⟨#[.int .i64 x4, .pointer (some ⟨b1, 0, none⟩), undef, .bool true, .int .i64 x4, .bool true, .bool true, undef, undef, undef, .bool true], []⟩) (by kernel_rfl) ?_
    refine wpList_nil ?_
    refine hK8 _ _ ?_
    refine wp_ret ?_
    refine hret _ _ ?_
    refine ends_still (v := Value.bool true) (by kernel_rfl) (by kernel_rfl) ?_
    injection h with h
    subst h
    exact ⟨f, rfl, FM.le.refl _, HS⟩
  · have c9 : ¬ (x4 < 0) := c9
    refine seqRwI 5 (x := (decide (x4 < 0))) (v := false) (by kernel_rfl) (decide_eq_false c9) ?_
    refine seqRwI 6 (x := (decide (x4 < 0))) (v := false) (by kernel_rfl) (decide_eq_false c9) ?_
    refine seqL1 (by kernel_rfl) ?_
    refine seqG (by kernel_rfl) (does_run (run_load rfl Try.underlying52 rfl (by kernel_rfl : _ = Value.pointer (some ⟨b1, 0, none⟩)) (HS.cell 0)) ?_)
    refine seqS3 (a' := ⟨#[.int .i64 x4, .pointer (some ⟨b1, 0, none⟩), undef, .bool (decide (x4 > v3)), .int .i64 x4, .bool false, .bool false, .int .i64 x4, .int .i64 v3, .bool (decide (x4 > v3)), .bool (decide (x4 > v3))], []⟩) (by kernel_rfl) ?_
    refine wpList_nil ?_
    refine hK8 _ _ ?_
    refine wp_ret ?_
    refine hret _ _ ?_
    refine ends_still (v := Value.bool (decide (x4 > v3))) (by kernel_rfl) (by kernel_rfl) ?_
    injection h with h
    subst h
    exact ⟨f, rfl, FM.le.refl _, HS⟩

set_option maxRecDepth 100000 in
set_option maxHeartbeats 4000000 in
theorem slices_IndexFunc_Light__sensor_outside_Light_1.calls (k : Nat) (b1 : Nat) (A5 : Option Addr) (c6 : Nat) (v3 : Int) (s4 : List Int) {t w : World} {f : FM} {H : List Seg} (HS : St t w f ([(b1, .cells #[.int .i64 v3] 52 (0, 0))] :: H)) (HR7 : SlR (tInt .i64) f A5 c6 s4) (r1 : Int) (h : slices_IndexFunc_Light__sensor_outside_Light_1 k v3 s4 = some r1) :
    Calls Try.prog 116 #[.slice A5 s4.length c6, .func (.func 95) #[] #[.pointer (some ⟨b1, 0, none⟩)]] w (fun e w' => ∃ (g : FM), e = .returned (Value.int .i64 r1) ∧ FM.le f g ∧ St t w' g ([(b1, .cells #[.int .i64 v3] 52 (0, 0))] :: H)) := by
  unfold slices_IndexFunc_Light__sensor_outside_Light_1 at h
  refine enter Try.func116 rfl (tm := #[.slice A5 s4.length c6, .func (.func 95) #[] #[.pointer (some ⟨b1, 0, none⟩)], undef, undef, undef, undef, undef, undef, undef, undef, undef, undef, undef, undef, undef, undef, undef, undef, undef]) (by kernel_rfl) ?_
  intro B hret hnor hnp
  refine wp_seq_k (fun K8 hK9 => ?_)
  refine wp_region_lit ?_
  refine seqS1 (a' := ⟨#[.slice A5 s4.length c6, .func (.func 95) #[] #[.pointer (some ⟨b1, 0, none⟩)], undef, undef, .int .i64 0, undef, undef, undef, undef, undef, undef, undef, undef, undef, undef, undef, undef, undef, undef], []⟩) (by kernel_rfl) ?_
  refine wpList_nil ?_
  refine hK9 _ _ ?_
  refine wp_seq_k (fun K10 hK11 => ?_)
  refine wp_seq_k (fun K12 hK13 => ?_)
  refine wp_region_lit ?_
  refine seqS3 (a' := ⟨#[.slice A5 s4.length c6, .func (.func 95) #[] #[.pointer (some ⟨b1, 0, none⟩)], undef, undef, .int .i64 0, undef, .slice A5 s4.length c6, .int .i64 (s4.length : Int), .int .i64 0, undef, undef, undef, undef, undef, undef, undef, undef, undef, undef], []⟩) (by kernel_rfl) ?_
  refine wpList_nil ?_
  refine hK13 _ _ ?_
  refine blockK (fun B14 hx15 hn16 hr17 ho18 hp19 => ?_)
  have hq_ := bind_some h; clear h; obtain ⟨o20, hv70, h⟩ := hq_
  have JR72 : ∀ z_, some (Sum.inl z_) = some o20 → some z_ = some r1 := by
    intro z_ e_; injection e_ with e_; subst e_; exact h
  have J71 : ∀ (f65 : FM) (j69 : Nat → Value) (W67 : World) (a_ : Act), FM.le f f65 → some (Sum.inr ()) = some o20 → St t W67 f65 ([(b1, .cells #[.int .i64 v3] 52 (0, 0))] :: H) → a_ = ⟨#[.slice A5 s4.length c6, .func (.func 95) #[] #[.pointer (some ⟨b1, 0, none⟩)], undef, undef, (j69 0), (j69 1), .slice A5 s4.length c6, .int .i64 (s4.length : Int), (j69 2), (j69 3), (j69 4), (j69 5), (j69 6), (j69 7), (j69 8), (j69 9), (j69 10), (j69 11), (j69 12)], []⟩ → K10 a_ W67 := by
    intro f65 j69 W67 a_ L66 hj73 HS68  hfr_; subst hfr_
    injection hj73 with hj73; subst hj73; try dsimp only at h
    simp only [Sum.elim_inr] at h
    refine hK11 _ _ ?_
    refine wp_seq_k (fun K74 hK75 => ?_)
    refine wp_region_lit ?_
    refine seqS1 (a' := ⟨#[.slice A5 s4.length c6, .func (.func 95) #[] #[.pointer (some ⟨b1, 0, none⟩)], undef, undef, .int .i64 (-1), (j69 1), .slice A5 s4.length c6, .int .i64 (s4.length : Int), (j69 2), (j69 3), (j69 4), (j69 5), (j69 6), (j69 7), (j69 8), (j69 9), (j69 10), (j69 11), (j69 12)], []⟩) (by kernel_rfl) ?_
    refine wpList_nil ?_
    refine hK75 _ _ ?_
    refine wp_ret ?_
    refine hret _ _ ?_
    refine ends_still (v := Value.int .i64 (-1)) (by kernel_rfl) (by kernel_rfl) ?_
    injection h with h
    subst h
    exact ⟨f65, rfl, L66, HS68⟩
  clear h; have h := hv70; clear hv70
  refine loopK (fun n_ a_ w_ => ∃ (f24 : FM) (x29 : Int) (j28 : Nat → Value), FM.le f f24 ∧ St t w_ f24 ([(b1, .cells #[.int .i64 v3] 52 (0, 0))] :: H) ∧ slices_IndexFunc_Light__sensor_outside_Light_1.l0 k s4 v3 n_ x29 = some o20 ∧ a_ = ⟨#[.slice A5 s4.length c6, .func (.func 95) #[] #[.pointer (some ⟨b1, 0, none⟩)], undef, undef, (j28 0), (j28 1), .slice A5 s4.length c6, .int .i64 (s4.length : Int), .int .i64 x29, (j28 2), (j28 3), (j28 4), (j28 5), (j28 6), (j28 7), (j28 8), (j28 9), (j28 10), (j28 11)], []⟩) k ⟨f, 0, (fun i_ => [Value.int .i64 0, undef, undef, undef, undef, undef, undef, undef, undef, undef, undef, undef].getD i_ undef), (FM.le.refl _), HS, h, (by kernel_rfl)⟩ ?_
  clear h
  rintro n23 _ W26 ⟨f24, x29, j28, L25, HS27, h, rfl⟩ K21 hK22
  obtain _ | n23 := n23
  · exact nomatch h
  simp only [slices_IndexFunc_Light__sensor_outside_Light_1.l0] at h
  refine wp_seq_k (fun K30 hK31 => ?_)
  refine wp_region_lit ?_
  refine seqS1 (a' := ⟨#[.slice A5 s4.length c6, .func (.func 95) #[] #[.pointer (some ⟨b1, 0, none⟩)], undef, undef, (j28 0), (j28 1), .slice A5 s4.length c6, .int .i64 (s4.length : Int), .int .i64 x29, .bool (decide (x29 < (s4.length : Int))), (j28 3), (j28 4), (j28 5), (j28 6), (j28 7), (j28 8), (j28 9), (j28 10), (j28 11)], []⟩) (by kernel_rfl) ?_
  refine wpList_nil ?_
  refine hK31 _ _ ?_
  refine wp_seq_k (fun K32 hK33 => ?_)
  have hq_ := ite_some h; clear h; rcases hq_ with ⟨c35, h⟩ | ⟨c35, h⟩
  · have c35 : x29 < (s4.length : Int) := c35
    refine wpRwI 9 (x := (decide (x29 < (s4.length : Int)))) (v := true) (by kernel_rfl) (decide_eq_true c35) ?_
    refine condT (by kernel_rfl) ?_
    refine wp_skip ?_
    refine hK33 _ _ ?_
    refine wp_seq_k (fun K36 hK37 => ?_)
    refine blockK (fun B38 hx39 hn40 hr41 ho42 hp43 => ?_)
    refine wp_seq_k (fun K45 hK46 => ?_)
    refine wp_region_lit ?_
    refine seqS2 (a' := ⟨#[.slice A5 s4.length c6, .func (.func 95) #[] #[.pointer (some ⟨b1, 0, none⟩)], undef, undef, (j28 0), .int .i64 x29, .slice A5 s4.length c6, .int .i64 (s4.length : Int), .int .i64 x29, .bool true, .int .i64 x29, (j28 4), (j28 5), (j28 6), (j28 7), (j28 8), (j28 9), (j28 10), (j28 11)], []⟩) (by kernel_rfl) ?_
    refine wpList_nil ?_
    refine hK46 _ _ ?_
    refine wp_seq_k (fun K47 hK48 => ?_)
    refine wp_region_lit ?_
    have hq_ := guard_some h; clear h; obtain ⟨c49, h⟩ := hq_
    have c49 : 0 ≤ x29 := c49
    obtain ⟨b53, of54, cs50, rfl, hr51, hc52⟩ := (HR7.mono L25).at (i := x29) c49 c35
    obtain rfl := hr51
    refine seqL3 (by kernel_rfl) ?_
    refine seqK rfl (does_run (run_index (sz := 1) rfl Try.underlying62 (by kernel_rfl) (by kernel_rfl : _ = Value.slice (some ⟨b53, of54, none⟩) s4.length c6) (by kernel_rfl : _ = Value.int .i64 x29) c49 c35 W26) ?_)
    refine seqK rfl (does_run (run_load rfl Try.underlying52 rfl (by kernel_rfl : _ = Value.pointer (some ⟨b53, of54 + (x29 : Int).toNat * 1, none⟩)) ((hc52 (FM.le.refl _) HS27) 0 (by decide))) ?_)
    have hq_ := bind_some h; clear h; obtain ⟨vt55, hc56, h⟩ := hq_
    refine seqK rfl (does_call (f := 95) (args := #[.int .i64 (rd s4 x29), .pointer (some ⟨b1, 0, none⟩)]) (by kernel_rfl) (sensor_outside_Light_1.calls k b1 v3 (rd s4 x29) HS27 vt55 hc56) ?_)
    rintro _ W59 ⟨f57, rfl, L58, HS60⟩
    refine ⟨_, rfl, ?_⟩
    refine wpList_nil ?_
    refine hK48 _ _ ?_
    have hq_ := ite_some h; clear h; rcases hq_ with ⟨c62, h⟩ | ⟨c62, h⟩
    · have c62 : vt55 = true := c62
      refine wpRwI 16 (x := vt55) (v := true) (by kernel_rfl) c62 ?_
      refine condT (by kernel_rfl) ?_
      refine wp_seq_k (fun K63 hK64 => ?_)
      refine wp_region_lit ?_
      refine seqS2 (a' := ⟨#[.slice (some ⟨b53, of54, none⟩) s4.length c6, .func (.func 95) #[] #[.pointer (some ⟨b1, 0, none⟩)], undef, undef, .int .i64 x29, .int .i64 x29, .slice (some ⟨b53, of54, none⟩) s4.length c6, .int .i64 (s4.length : Int), .int .i64 x29, .bool true, .int .i64 x29, .func (.func 95) #[] #[.pointer (some ⟨b1, 0, none⟩)], .slice (some ⟨b53, of54, none⟩) s4.length c6, .int .i64 x29, .pointer (some ⟨b53, of54 + (x29 : Int).toNat * 1, none⟩), .int .i64 (rd s4 x29), .bool true, .int .i64 x29, (j28 11)], []⟩) (by kernel_rfl) ?_
      refine wpList_nil ?_
      refine hK64 _ _ ?_
      refine wp_ret ?_
      refine hr41 _ _ ?_
      refine hr17 _ _ ?_
      refine hret _ _ ?_
      refine ends_still (v := Value.int .i64 x29) (by kernel_rfl) (by kernel_rfl) ?_
      replace h := JR72 _ h
      injection h with h
      subst h
      exact ⟨f57, rfl, (L25.trans L58), HS60⟩
    · have c62 : ¬ (vt55 = true) := c62
      refine wpRwI 16 (x := vt55) (v := false) (by kernel_rfl) (Bool.eq_false_iff.mpr c62) ?_
      refine condF (by kernel_rfl) ?_
      refine wp_skip ?_
      refine hn40 _ _ ?_
      refine hK37 _ _ ?_
      refine wp_region_lit ?_
      refine seqS2 (a' := ⟨#[.slice (some ⟨b53, of54, none⟩) s4.length c6, .func (.func 95) #[] #[.pointer (some ⟨b1, 0, none⟩)], undef, undef, (j28 0), .int .i64 x29, .slice (some ⟨b53, of54, none⟩) s4.length c6, .int .i64 (s4.length : Int), .int .i64 (w64 (x29 + 1)), .bool true, .int .i64 x29, .func (.func 95) #[] #[.pointer (some ⟨b1, 0, none⟩)], .slice (some ⟨b53, of54, none⟩) s4.length c6, .int .i64 x29, .pointer (some ⟨b53, of54 + (x29 : Int).toNat * 1, none⟩), .int .i64 (rd s4 x29), .bool false, (j28 10), .int .i64 (w64 (x29 + 1))], []⟩) (by kernel_rfl) ?_
      refine wpList_nil ?_
      refine hK22 n23 _ _ (Nat.lt_succ_self _) ?_
      exact ⟨f57, (w64 (x29 + 1)), (fun i_ => [(j28 0), Value.int .i64 x29, Value.bool true, Value.int .i64 x29, Value.func (.func 95) #[] #[.pointer (some ⟨b1, 0, none⟩)], Value.slice (some ⟨b53, of54, none⟩) s4.length c6, Value.int .i64 x29, Value.pointer (some ⟨b53, of54 + (x29 : Int).toNat * 1, none⟩), Value.int .i64 (rd s4 x29), Value.bool false, (j28 10), Value.int .i64 (w64 (x29 + 1))].getD i_ undef), (L25.trans L58), HS60, h, (by kernel_rfl)⟩
  · have c35 : ¬ (x29 < (s4.length : Int)) := c35
    refine wpRwI 9 (x := (decide (x29 < (s4.length : Int)))) (v := false) (by kernel_rfl) (decide_eq_false c35) ?_
    refine condF (by kernel_rfl) ?_
    refine wp_exit ?_
    refine hx15 _ _ ?_
    exact J71 f24 (fun i_ => [(j28 0), (j28 1), Value.int .i64 x29, Value.bool false, (j28 3), (j28 4), (j28 5), (j28 6), (j28 7), (j28 8), (j28 9), (j28 10), (j28 11)].getD i_ undef) W26 _ L25 h HS27 (by kernel_rfl)

set_option maxRecDepth 100000 in
set_option maxHeartbeats 4000000 in
theorem slices_ContainsFunc_Light__sensor_outside_Light_1.calls (k : Nat) (b1 : Nat) (A5 : Option Addr) (c6 : Nat) (v3 : Int) (s4 : List Int) {t w : World} {f : FM} {H : List Seg} (HS : St t w f ([(b1, .cells #[.int .i64 v3] 52 (0, 0))] :: H)) (HR7 : SlR (tInt .i64) f A5 c6 s4) (r1 : Bool) (h : slices_ContainsFunc_Light__sensor_outside_Light_1 k v3 s4 = some r1) :
    Calls Try.prog 94 #[.slice A5 s4.length c6, .func (.func 95) #[] #[.pointer (some ⟨b1, 0, none⟩)]] w (fun e w' => ∃ (g : FM), e = .returned (Value.bool r1) ∧ FM.le f g ∧ St t w' g ([(b1, .cells #[.int .i64 v3] 52 (0, 0))] :: H)) := by
  unfold slices_ContainsFunc_Light__sensor_outside_Light_1 at h
  refine enter Try.func94 rfl (tm := #[.slice A5 s4.length c6, .func (.func 95) #[] #[.pointer (some ⟨b1, 0, none⟩)], undef, undef, undef, undef, undef, undef, undef]) (by kernel_rfl) ?_
  intro B hret hnor hnp
  refine wp_seq_k (fun K8 hK9 => ?_)
  refine wp_region_lit ?_
  refine seqS1 (a' := ⟨#[.slice A5 s4.length c6, .func (.func 95) #[] #[.pointer (some ⟨b1, 0, none⟩)], undef, undef, .bool false, undef, undef, undef, undef], []⟩) (by kernel_rfl) ?_
  refine wpList_nil ?_
  refine hK9 _ _ ?_
  refine wp_seq_k (fun K10 hK11 => ?_)
  refine wp_region_lit ?_
  have hq_ := bind_some h; clear h; obtain ⟨vt12, hc13, h⟩ := hq_
  refine seqL2 (by kernel_rfl) ?_
  refine seqK rfl (does_call (f := 116) (args := #[.slice A5 s4.length c6, .func (.func 95) #[] #[.pointer (some ⟨b1, 0, none⟩)]]) (by kernel_rfl) (slices_IndexFunc_Light__sensor_outside_Light_1.calls k b1 A5 c6 v3 s4 HS HR7 vt12 hc13) ?_)
  rintro _ W16 ⟨f14, rfl, L15, HS17⟩
  refine ⟨_, rfl, ?_⟩
  refine seqS2 (a' := ⟨#[.slice A5 s4.length c6, .func (.func 95) #[] #[.pointer (some ⟨b1, 0, none⟩)], undef, undef, .bool (decide (vt12 ≥ 0)), .slice A5 s4.length c6, .func (.func 95) #[] #[.pointer (some ⟨b1, 0, none⟩)], .int .i64 vt12, .bool (decide (vt12 ≥ 0))], []⟩) (by kernel_rfl) ?_
  refine wpList_nil ?_
  refine hK11 _ _ ?_
  refine wp_ret ?_
  refine hret _ _ ?_
  refine ends_still (v := Value.bool (decide (vt12 ≥ 0))) (by kernel_rfl) (by kernel_rfl) ?_
  injection h with h
  subst h
  exact ⟨f14, rfl, L15, HS17⟩

set_option maxRecDepth 100000 in
set_option maxHeartbeats 4000000 in
theorem sensor_outside_Light.calls (k : Nat) (A2 : Option Addr) (c3 : Nat) (l1 : List Int) (most5 : Int) {t w : World} {f : FM} {H : List Seg} (HS : St t w f (H)) (HR4 : SlR (tInt .i64) f A2 c3 l1) (r1 : Bool) (h : sensor_outside_Light k l1 most5 = some r1) :
    Calls Try.prog 56 #[.slice A2 l1.length c3, .int .i64 most5] w (fun e w' => ∃ (g : FM), e = .returned (Value.bool r1) ∧ FM.le f g ∧ St t w' g (H)) := by
  unfold sensor_outside_Light at h
  refine enter Try.func56 rfl (tm := #[.slice A2 l1.length c3, .int .i64 most5, undef, undef, undef, undef, undef, undef]) (by kernel_rfl) ?_
  intro B hret hnor hnp
  refine wp_seq_k (fun K6 hK7 => ?_)
  refine wp_region_lit ?_
  refine seqK rfl (does_box (cs := #[.int .i64 most5]) rfl (by kernel_rfl : _ = Value.int .i64 most5) rfl HS ?_)
  intro b8 W9 HS10
  refine seqS1 (a' := ⟨#[.slice A2 l1.length c3, .int .i64 most5, undef, .pointer (some ⟨b8, 0, none⟩), .bool false, undef, undef, undef], []⟩) (by kernel_rfl) ?_
  refine wpList_nil ?_
  refine hK7 _ _ ?_
  refine wp_seq_k (fun K12 hK13 => ?_)
  refine wp_region_lit ?_
  have hq_ := bind_some h; clear h; obtain ⟨vt14, hc15, h⟩ := hq_
  refine seqL2 (by kernel_rfl) ?_
  refine seqK rfl (does_call (f := 94) (args := #[.slice A2 l1.length c3, .func (.func 95) #[] #[.pointer (some ⟨b8, 0, none⟩)]]) (by kernel_rfl) (slices_ContainsFunc_Light__sensor_outside_Light_1.calls k b8 A2 c3 most5 l1 HS10 HR4 vt14 hc15) ?_)
  rintro _ W18 ⟨f16, rfl, L17, HS19⟩
  refine ⟨_, rfl, ?_⟩
  refine seqS1 (a' := ⟨#[.slice A2 l1.length c3, .int .i64 most5, undef, .pointer (some ⟨b8, 0, none⟩), .bool vt14, .slice A2 l1.length c3, .func (.func 95) #[] #[.pointer (some ⟨b8, 0, none⟩)], .bool vt14], []⟩) (by kernel_rfl) ?_
  refine wpList_nil ?_
  refine hK13 _ _ ?_
  refine wp_ret ?_
  refine hret _ _ ?_
  refine ends_still (v := Value.bool vt14) (by kernel_rfl) (by kernel_rfl) ?_
  have HS20 := HS19.drop
  injection h with h
  subst h
  exact ⟨f16, rfl, L17, HS20⟩

set_option maxRecDepth 100000 in
set_option maxHeartbeats 4000000 in
theorem sensor_Check.calls (k : Nat) (A2 : Option Addr) (c3 : Nat) (A5 : Option Addr) (c6 : Nat) (A8 : Option Addr) (c9 : Nat) (s1 : S_Sensor) {t w : World} {f : FM} {H : List Seg} (HS : St t w f (H)) (HR4 : SlR (tInt .i64) f A2 c3 s1.Bias) (HR7 : SlR (tInt .i64) f A5 c6 s1.Dark) (HR10 : SlR (tInt .i64) f A8 c9 s1.Flat) (r1 : Int) (h : sensor_Check k s1 = some r1) :
    Calls Try.prog 93 #[.agg #[.int .i64 s1.W, .int .i64 s1.H, .slice A2 s1.Bias.length c3, .slice A5 s1.Dark.length c6, .slice A8 s1.Flat.length c9, .int .i64 s1.Full, .int .i64 s1.Gain, .int .i64 s1.Noise]] w (fun e w' => ∃ (g : FM), e = .returned (Value.int .i64 r1) ∧ FM.le f g ∧ St t w' g (H)) := by
  unfold sensor_Check at h
  refine enter Try.func93 rfl (tm := #[.agg #[.int .i64 s1.W, .int .i64 s1.H, .slice A2 s1.Bias.length c3, .slice A5 s1.Dark.length c6, .slice A8 s1.Flat.length c9, .int .i64 s1.Full, .int .i64 s1.Gain, .int .i64 s1.Noise], undef, undef, undef, undef, undef, undef, undef, undef, undef, undef, undef, undef, undef, undef, undef, undef, undef, undef, undef, undef, undef, undef, undef, undef, undef, undef, undef, undef, undef, undef, undef, undef, undef, undef, undef, undef, undef, undef, undef, undef, undef, undef, undef, undef, undef, undef, undef, undef, undef, undef, undef, undef, undef, undef, undef, undef, undef, undef, undef, undef, undef, undef, undef, undef, undef, undef, undef, undef, undef, undef, undef, undef, undef, undef, undef, undef, undef, undef, undef, undef, undef, undef, undef, undef, undef, undef]) (by kernel_rfl) ?_
  intro B hret hnor hnp
  refine wp_seq_k (fun K11 hK12 => ?_)
  refine wp_region_lit ?_
  refine seqK rfl (does_box (cs := #[.int .i64 s1.W, .int .i64 s1.H, .slice A2 s1.Bias.length c3, .slice A5 s1.Dark.length c6, .slice A8 s1.Flat.length c9, .int .i64 s1.Full, .int .i64 s1.Gain, .int .i64 s1.Noise]) rfl (by kernel_rfl : _ = Value.agg #[.int .i64 s1.W, .int .i64 s1.H, .slice A2 s1.Bias.length c3, .slice A5 s1.Dark.length c6, .slice A8 s1.Flat.length c9, .int .i64 s1.Full, .int .i64 s1.Gain, .int .i64 s1.Noise]) rfl HS ?_)
  intro b13 W14 HS15
  refine seqS1 (a' := ⟨#[.agg #[.int .i64 s1.W, .int .i64 s1.H, .slice A2 s1.Bias.length c3, .slice A5 s1.Dark.length c6, .slice A8 s1.Flat.length c9, .int .i64 s1.Full, .int .i64 s1.Gain, .int .i64 s1.Noise], .pointer (some ⟨b13, 0, none⟩), .int .i64 0, undef, undef, undef, undef, undef, undef, undef, undef, undef, undef, undef, undef, undef, undef, undef, undef, undef, undef, undef, undef, undef, undef, undef, undef, undef, undef, undef, undef, undef, undef, undef, undef, undef, undef, undef, undef, undef, undef, undef, undef, undef, undef, undef, undef, undef, undef, undef, undef, undef, undef, undef, undef, undef, undef, undef, undef, undef, undef, undef, undef, undef, undef, undef, undef, undef, undef, undef, undef, undef, undef, undef, undef, undef, undef, undef, undef, undef, undef, undef, undef, undef, undef, undef, undef], []⟩) (by kernel_rfl) ?_
  refine wpList_nil ?_
  refine hK12 _ _ ?_
  refine wp_seq_k (fun K17 hK18 => ?_)
  refine wp_seq_k (fun K19 hK20 => ?_)
  refine wp_region_lit ?_
  refine seqL1 (by kernel_rfl) ?_
  refine seqK rfl (does_run (run_load rfl Try.underlying3 rfl (by kernel_rfl : _ = Value.pointer (some ⟨b13, 0, none⟩)) (HS15.cell 0)) ?_)
  refine seqL1 (by kernel_rfl) ?_
  refine seqK rfl (does_run (run_load rfl Try.underlying3 rfl (by kernel_rfl : _ = Value.pointer (some ⟨b13, 1, none⟩)) (HS15.cell 1)) ?_)
  refine seqS2 (a' := ⟨#[.agg #[.int .i64 s1.W, .int .i64 s1.H, .slice A2 s1.Bias.length c3, .slice A5 s1.Dark.length c6, .slice A8 s1.Flat.length c9, .int .i64 s1.Full, .int .i64 s1.Gain, .int .i64 s1.Noise], .pointer (some ⟨b13, 0, none⟩), .int .i64 0, .int .i64 (w64 (s1.W * s1.H)), .pointer (some ⟨b13, 0, none⟩), .int .i64 s1.W, .pointer (some ⟨b13, 1, none⟩), .int .i64 s1.H, .int .i64 (w64 (s1.W * s1.H)), undef, undef, undef, undef, undef, undef, undef, undef, undef, undef, undef, undef, undef, undef, undef, undef, undef, undef, undef, undef, undef, undef, undef, undef, undef, undef, undef, undef, undef, undef, undef, undef, undef, undef, undef, undef, undef, undef, undef, undef, undef, undef, undef, undef, undef, undef, undef, undef, undef, undef, undef, undef, undef, undef, undef, undef, undef, undef, undef, undef, undef, undef, undef, undef, undef, undef, undef, undef, undef, undef, undef, undef, undef, undef, undef, undef, undef, undef], []⟩) (by kernel_rfl) ?_
  refine wpList_nil ?_
  refine hK20 _ _ ?_
  refine blockK (fun B21 hx22 hn23 hr24 ho25 hp26 => ?_)
  refine wp_seq_k (fun K28 hK29 => ?_)
  refine wp_region_lit ?_
  refine seqL1 (by kernel_rfl) ?_
  refine seqK rfl (does_run (run_load rfl Try.underlying3 rfl (by kernel_rfl : _ = Value.pointer (some ⟨b13, 0, none⟩)) (HS15.cell 0)) ?_)
  refine seqL1 (by kernel_rfl) ?_
  refine seqK rfl (does_run (run_load rfl Try.underlying3 rfl (by kernel_rfl : _ = Value.pointer (some ⟨b13, 1, none⟩)) (HS15.cell 1)) ?_)
  refine seqS3 (a' := ⟨#[.agg #[.int .i64 s1.W, .int .i64 s1.H, .slice A2 s1.Bias.length c3, .slice A5 s1.Dark.length c6, .slice A8 s1.Flat.length c9, .int .i64 s1.Full, .int .i64 s1.Gain, .int .i64 s1.Noise], .pointer (some ⟨b13, 0, none⟩), .int .i64 0, .int .i64 (w64 (s1.W * s1.H)), .pointer (some ⟨b13, 0, none⟩), .int .i64 s1.W, .pointer (some ⟨b13, 1, none⟩), .int .i64 s1.H, .int .i64 (w64 (s1.W * s1.H)), undef, .pointer (some ⟨b13, 0, none⟩), .int .i64 s1.W, .pointer (some ⟨b13, 1, none⟩), .int .i64 s1.H, .int .i64 (mn s1.W s1.H), .bool (decide ((mn s1.W s1.H) < 1)), .bool (decide ((mn s1.W s1.H) < 1)), undef, undef, undef, undef, undef, undef, undef, undef, undef, undef, undef, undef, undef, undef, undef, undef, undef, undef, undef, undef, undef, undef, undef, undef, undef, undef, undef, undef, undef, undef, undef, undef, undef, undef, undef, undef, undef, undef, undef, undef, undef, undef, undef, undef, undef, undef, undef, undef, undef, undef, undef, undef, undef, undef, undef, undef, undef, undef, undef, undef, undef, undef, undef, undef, undef, undef, undef, undef, undef, undef], []⟩) (by kernel_rfl) ?_
  have hq_ := ite_some h; clear h; rcases hq_ with ⟨c30, h⟩ | ⟨c30, h⟩
  · have c30 : (mn s1.W s1.H) < 1 := c30
    refine seqRwI 15 (x := (decide ((mn s1.W s1.H) < 1))) (v := true) (by kernel_rfl) (decide_eq_true c30) ?_
    refine seqRwI 16 (x := (decide ((mn s1.W s1.H) < 1))) (v := true) (by kernel_rfl) (decide_eq_true c30) ?_
    refine seqS8 (a' := ⟨#[.agg #[.int .i64 s1.W, .int .i64 s1.H, .slice A2 s1.Bias.length c3, .slice A5 s1.Dark.length c6, .slice A8 s1.Flat.length c9, .int .i64 s1.Full, .int .i64 s1.Gain, .int .i64 s1.Noise], .pointer (some ⟨b13, 0, none⟩), .int .i64 0, .int .i64 (w64 (s1.W * s1.H)), .pointer (some ⟨b13, 0, none⟩), .int .i64 s1.W, .pointer (some ⟨b13, 1, none⟩), .int .i64 s1.H, .int .i64 (w64 (s1.W * s1.H)), .bool true, .pointer (some ⟨b13, 0, none⟩), .int .i64 s1.W, .pointer (some ⟨b13, 1, none⟩), .int .i64 s1.H, .int .i64 (mn s1.W s1.H), .bool true, .bool true, undef, undef, undef, undef, undef, undef, .bool true, undef, undef, undef, undef, undef, undef, undef, undef, undef, undef, undef, undef, undef, undef, undef, undef, undef, undef, undef, undef, undef, undef, undef, undef, undef, undef, undef, undef, undef, undef, undef, undef, undef, undef, undef, undef, undef, undef, undef, undef, undef, undef, undef, undef, undef, undef, undef, undef, undef, undef, undef, undef, undef, undef, undef, undef, undef, undef, undef, undef, undef, undef, undef], []⟩) (by kernel_rfl) ?_
    refine wpList_nil ?_
    refine hK29 _ _ ?_
    refine condT (by kernel_rfl) ?_
    refine wp_seq_k (fun K31 hK32 => ?_)
    refine wp_region_lit ?_
    refine seqS1 (a' := ⟨#[.agg #[.int .i64 s1.W, .int .i64 s1.H, .slice A2 s1.Bias.length c3, .slice A5 s1.Dark.length c6, .slice A8 s1.Flat.length c9, .int .i64 s1.Full, .int .i64 s1.Gain, .int .i64 s1.Noise], .pointer (some ⟨b13, 0, none⟩), .int .i64 4, .int .i64 (w64 (s1.W * s1.H)), .pointer (some ⟨b13, 0, none⟩), .int .i64 s1.W, .pointer (some ⟨b13, 1, none⟩), .int .i64 s1.H, .int .i64 (w64 (s1.W * s1.H)), .bool true, .pointer (some ⟨b13, 0, none⟩), .int .i64 s1.W, .pointer (some ⟨b13, 1, none⟩), .int .i64 s1.H, .int .i64 (mn s1.W s1.H), .bool true, .bool true, undef, undef, undef, undef, undef, undef, .bool true, undef, undef, undef, undef, undef, undef, undef, undef, undef, undef, undef, undef, undef, undef, undef, undef, undef, undef, undef, undef, undef, undef, undef, undef, undef, undef, undef, undef, undef, undef, undef, undef, undef, undef, undef, undef, undef, undef, undef, undef, undef, undef, undef, undef, undef, undef, undef, undef, undef, undef, undef, undef, undef, undef, undef, undef, undef, undef, undef, undef, undef, undef, undef], []⟩) (by kernel_rfl) ?_
    refine wpList_nil ?_
    refine hK32 _ _ ?_
    refine wp_ret ?_
    refine hr24 _ _ ?_
    refine hret _ _ ?_
    refine ends_still (v := Value.int .i64 4) (by kernel_rfl) (by kernel_rfl) ?_
    have HS102 := HS15.drop
    injection h with h
    subst h
    exact ⟨f, rfl, FM.le.refl _, HS102⟩
  · have c30 : ¬ ((mn s1.W s1.H) < 1) := c30
    refine seqRwI 15 (x := (decide ((mn s1.W s1.H) < 1))) (v := false) (by kernel_rfl) (decide_eq_false c30) ?_
    refine seqRwI 16 (x := (decide ((mn s1.W s1.H) < 1))) (v := false) (by kernel_rfl) (decide_eq_false c30) ?_
    refine seqL1 (by kernel_rfl) ?_
    refine seqG (by kernel_rfl) (does_run (run_load rfl Try.underlying3 rfl (by kernel_rfl : _ = Value.pointer (some ⟨b13, 0, none⟩)) (HS15.cell 0)) ?_)
    refine seqL1 (by kernel_rfl) ?_
    refine seqG (by kernel_rfl) (does_run (run_load rfl Try.underlying3 rfl (by kernel_rfl : _ = Value.pointer (some ⟨b13, 1, none⟩)) (HS15.cell 1)) ?_)
    refine seqS4 (a' := ⟨#[.agg #[.int .i64 s1.W, .int .i64 s1.H, .slice A2 s1.Bias.length c3, .slice A5 s1.Dark.length c6, .slice A8 s1.Flat.length c9, .int .i64 s1.Full, .int .i64 s1.Gain, .int .i64 s1.Noise], .pointer (some ⟨b13, 0, none⟩), .int .i64 0, .int .i64 (w64 (s1.W * s1.H)), .pointer (some ⟨b13, 0, none⟩), .int .i64 s1.W, .pointer (some ⟨b13, 1, none⟩), .int .i64 s1.H, .int .i64 (w64 (s1.W * s1.H)), .bool (decide ((mx s1.W s1.H) > 32)), .pointer (some ⟨b13, 0, none⟩), .int .i64 s1.W, .pointer (some ⟨b13, 1, none⟩), .int .i64 s1.H, .int .i64 (mn s1.W s1.H), .bool false, .bool false, .pointer (some ⟨b13, 0, none⟩), .int .i64 s1.W, .pointer (some ⟨b13, 1, none⟩), .int .i64 s1.H, .int .i64 (mx s1.W s1.H), .bool (decide ((mx s1.W s1.H) > 32)), .bool (decide ((mx s1.W s1.H) > 32)), undef, undef, undef, undef, undef, undef, undef, undef, undef, undef, undef, undef, undef, undef, undef, undef, undef, undef, undef, undef, undef, undef, undef, undef, undef, undef, undef, undef, undef, undef, undef, undef, undef, undef, undef, undef, undef, undef, undef, undef, undef, undef, undef, undef, undef, undef, undef, undef, undef, undef, undef, undef, undef, undef, undef, undef, undef, undef, undef, undef, undef, undef, undef], []⟩) (by kernel_rfl) ?_
    refine wpList_nil ?_
    refine hK29 _ _ ?_
    have hq_ := ite_some h; clear h; rcases hq_ with ⟨c34, h⟩ | ⟨c34, h⟩
    · have c34 : (mx s1.W s1.H) > 32 := c34
      refine wpRwI 9 (x := (decide ((mx s1.W s1.H) > 32))) (v := true) (by kernel_rfl) (decide_eq_true c34) ?_
      refine wpRwI 22 (x := (decide ((mx s1.W s1.H) > 32))) (v := true) (by kernel_rfl) (decide_eq_true c34) ?_
      refine wpRwI 23 (x := (decide ((mx s1.W s1.H) > 32))) (v := true) (by kernel_rfl) (decide_eq_true c34) ?_
      refine condT (by kernel_rfl) ?_
      refine wp_seq_k (fun K35 hK36 => ?_)
      refine wp_region_lit ?_
      refine seqS1 (a' := ⟨#[.agg #[.int .i64 s1.W, .int .i64 s1.H, .slice A2 s1.Bias.length c3, .slice A5 s1.Dark.length c6, .slice A8 s1.Flat.length c9, .int .i64 s1.Full, .int .i64 s1.Gain, .int .i64 s1.Noise], .pointer (some ⟨b13, 0, none⟩), .int .i64 4, .int .i64 (w64 (s1.W * s1.H)), .pointer (some ⟨b13, 0, none⟩), .int .i64 s1.W, .pointer (some ⟨b13, 1, none⟩), .int .i64 s1.H, .int .i64 (w64 (s1.W * s1.H)), .bool true, .pointer (some ⟨b13, 0, none⟩), .int .i64 s1.W, .pointer (some ⟨b13, 1, none⟩), .int .i64 s1.H, .int .i64 (mn s1.W s1.H), .bool false, .bool false, .pointer (some ⟨b13, 0, none⟩), .int .i64 s1.W, .pointer (some ⟨b13, 1, none⟩), .int .i64 s1.H, .int .i64 (mx s1.W s1.H), .bool true, .bool true, undef, undef, undef, undef, undef, undef, undef, undef, undef, undef, undef, undef, undef, undef, undef, undef, undef, undef, undef, undef, undef, undef, undef, undef, undef, undef, undef, undef, undef, undef, undef, undef, undef, undef, undef, undef, undef, undef, undef, undef, undef, undef, undef, undef, undef, undef, undef, undef, undef, undef, undef, undef, undef, undef, undef, undef, undef, undef, undef, undef, undef, undef, undef], []⟩) (by kernel_rfl) ?_
      refine wpList_nil ?_
      refine hK36 _ _ ?_
      refine wp_ret ?_
      refine hr24 _ _ ?_
      refine hret _ _ ?_
      refine ends_still (v := Value.int .i64 4) (by kernel_rfl) (by kernel_rfl) ?_
      have HS103 := HS15.drop
      injection h with h
      subst h
      exact ⟨f, rfl, FM.le.refl _, HS103⟩
    · have c34 : ¬ ((mx s1.W s1.H) > 32) := c34
      refine wpRwI 9 (x := (decide ((mx s1.W s1.H) > 32))) (v := false) (by kernel_rfl) (decide_eq_false c34) ?_
      refine wpRwI 22 (x := (decide ((mx s1.W s1.H) > 32))) (v := false) (by kernel_rfl) (decide_eq_false c34) ?_
      refine wpRwI 23 (x := (decide ((mx s1.W s1.H) > 32))) (v := false) (by kernel_rfl) (decide_eq_false c34) ?_
      refine condF (by kernel_rfl) ?_
      refine wp_seq_k (fun K37 hK38 => ?_)
      refine wp_region_lit ?_
      refine seqL1 (by kernel_rfl) ?_
      refine seqK rfl (does_run (run_load rfl Try.underlying22 rfl (by kernel_rfl : _ = Value.pointer (some ⟨b13, 2, none⟩)) (HS15.cell 2)) ?_)
      refine seqS4 (a' := ⟨#[.agg #[.int .i64 s1.W, .int .i64 s1.H, .slice A2 s1.Bias.length c3, .slice A5 s1.Dark.length c6, .slice A8 s1.Flat.length c9, .int .i64 s1.Full, .int .i64 s1.Gain, .int .i64 s1.Noise], .pointer (some ⟨b13, 0, none⟩), .int .i64 0, .int .i64 (w64 (s1.W * s1.H)), .pointer (some ⟨b13, 0, none⟩), .int .i64 s1.W, .pointer (some ⟨b13, 1, none⟩), .int .i64 s1.H, .int .i64 (w64 (s1.W * s1.H)), .bool false, .pointer (some ⟨b13, 0, none⟩), .int .i64 s1.W, .pointer (some ⟨b13, 1, none⟩), .int .i64 s1.H, .int .i64 (mn s1.W s1.H), .bool false, .bool false, .pointer (some ⟨b13, 0, none⟩), .int .i64 s1.W, .pointer (some ⟨b13, 1, none⟩), .int .i64 s1.H, .int .i64 (mx s1.W s1.H), .bool false, .bool false, undef, .pointer (some ⟨b13, 2, none⟩), .slice A2 s1.Bias.length c3, .int .i64 (s1.Bias.length : Int), .int .i64 (w64 (s1.W * s1.H)), .bool ((s1.Bias.length : Int) != (w64 (s1.W * s1.H))), .bool ((s1.Bias.length : Int) != (w64 (s1.W * s1.H))), undef, undef, undef, undef, undef, undef, undef, undef, undef, undef, undef, undef, undef, undef, undef, undef, undef, undef, undef, undef, undef, undef, undef, undef, undef, undef, undef, undef, undef, undef, undef, undef, undef, undef, undef, undef, undef, undef, undef, undef, undef, undef, undef, undef, undef, undef, undef, undef, undef, undef, undef, undef, undef, undef, undef, undef], []⟩) (by kernel_rfl) ?_
      have hq_ := ite_some h; clear h; rcases hq_ with ⟨c39, h⟩ | ⟨c39, h⟩
      · have c39 : (s1.Bias.length : Int) ≠ (w64 (s1.W * s1.H)) := c39
        refine seqRwI 29 (x := ((s1.Bias.length : Int) != (w64 (s1.W * s1.H)))) (v := true) (by kernel_rfl) (bne_iff_ne.mpr c39) ?_
        refine seqRwI 30 (x := ((s1.Bias.length : Int) != (w64 (s1.W * s1.H)))) (v := true) (by kernel_rfl) (bne_iff_ne.mpr c39) ?_
        refine seqS14 (a' := ⟨#[.agg #[.int .i64 s1.W, .int .i64 s1.H, .slice A2 s1.Bias.length c3, .slice A5 s1.Dark.length c6, .slice A8 s1.Flat.length c9, .int .i64 s1.Full, .int .i64 s1.Gain, .int .i64 s1.Noise], .pointer (some ⟨b13, 0, none⟩), .int .i64 0, .int .i64 (w64 (s1.W * s1.H)), .pointer (some ⟨b13, 0, none⟩), .int .i64 s1.W, .pointer (some ⟨b13, 1, none⟩), .int .i64 s1.H, .int .i64 (w64 (s1.W * s1.H)), .bool false, .pointer (some ⟨b13, 0, none⟩), .int .i64 s1.W, .pointer (some ⟨b13, 1, none⟩), .int .i64 s1.H, .int .i64 (mn s1.W s1.H), .bool false, .bool false, .pointer (some ⟨b13, 0, none⟩), .int .i64 s1.W, .pointer (some ⟨b13, 1, none⟩), .int .i64 s1.H, .int .i64 (mx s1.W s1.H), .bool false, .bool false, .bool true, .pointer (some ⟨b13, 2, none⟩), .slice A2 s1.Bias.length c3, .int .i64 (s1.Bias.length : Int), .int .i64 (w64 (s1.W * s1.H)), .bool true, .bool true, undef, undef, undef, undef, undef, .bool true, .bool true, undef, undef, undef, undef, undef, .bool true, undef, undef, undef, undef, undef, undef, undef, undef, undef, undef, undef, undef, undef, undef, undef, undef, undef, undef, undef, undef, undef, undef, undef, undef, undef, undef, undef, undef, undef, undef, undef, undef, undef, undef, undef, undef, undef, undef, undef, undef, undef, undef, undef], []⟩) (by kernel_rfl) ?_
        refine wpList_nil ?_
        refine hK38 _ _ ?_
        refine condT (by kernel_rfl) ?_
        refine wp_seq_k (fun K40 hK41 => ?_)
        refine wp_region_lit ?_
        refine seqS1 (a' := ⟨#[.agg #[.int .i64 s1.W, .int .i64 s1.H, .slice A2 s1.Bias.length c3, .slice A5 s1.Dark.length c6, .slice A8 s1.Flat.length c9, .int .i64 s1.Full, .int .i64 s1.Gain, .int .i64 s1.Noise], .pointer (some ⟨b13, 0, none⟩), .int .i64 3, .int .i64 (w64 (s1.W * s1.H)), .pointer (some ⟨b13, 0, none⟩), .int .i64 s1.W, .pointer (some ⟨b13, 1, none⟩), .int .i64 s1.H, .int .i64 (w64 (s1.W * s1.H)), .bool false, .pointer (some ⟨b13, 0, none⟩), .int .i64 s1.W, .pointer (some ⟨b13, 1, none⟩), .int .i64 s1.H, .int .i64 (mn s1.W s1.H), .bool false, .bool false, .pointer (some ⟨b13, 0, none⟩), .int .i64 s1.W, .pointer (some ⟨b13, 1, none⟩), .int .i64 s1.H, .int .i64 (mx s1.W s1.H), .bool false, .bool false, .bool true, .pointer (some ⟨b13, 2, none⟩), .slice A2 s1.Bias.length c3, .int .i64 (s1.Bias.length : Int), .int .i64 (w64 (s1.W * s1.H)), .bool true, .bool true, undef, undef, undef, undef, undef, .bool true, .bool true, undef, undef, undef, undef, undef, .bool true, undef, undef, undef, undef, undef, undef, undef, undef, undef, undef, undef, undef, undef, undef, undef, undef, undef, undef, undef, undef, undef, undef, undef, undef, undef, undef, undef, undef, undef, undef, undef, undef, undef, undef, undef, undef, undef, undef, undef, undef, undef, undef, undef], []⟩) (by kernel_rfl) ?_
        refine wpList_nil ?_
        refine hK41 _ _ ?_
        refine wp_ret ?_
        refine hr24 _ _ ?_
        refine hret _ _ ?_
        refine ends_still (v := Value.int .i64 3) (by kernel_rfl) (by kernel_rfl) ?_
        have HS104 := HS15.drop
        injection h with h
        subst h
        exact ⟨f, rfl, FM.le.refl _, HS104⟩
      · have c39 : ¬ ((s1.Bias.length : Int) ≠ (w64 (s1.W * s1.H))) := c39
        refine seqRwI 29 (x := ((s1.Bias.length : Int) != (w64 (s1.W * s1.H)))) (v := false) (by kernel_rfl) (bne_eq_false_iff_eq.mpr (Decidable.of_not_not c39)) ?_
        refine seqRwI 30 (x := ((s1.Bias.length : Int) != (w64 (s1.W * s1.H)))) (v := false) (by kernel_rfl) (bne_eq_false_iff_eq.mpr (Decidable.of_not_not c39)) ?_
        refine seqL1 (by kernel_rfl) ?_
        refine seqG (by kernel_rfl) (does_run (run_load rfl Try.underlying62 rfl (by kernel_rfl : _ = Value.pointer (some ⟨b13, 3, none⟩)) (HS15.cell 3)) ?_)
        refine seqS5 (a' := ⟨#[.agg #[.int .i64 s1.W, .int .i64 s1.H, .slice A2 s1.Bias.length c3, .slice A5 s1.Dark.length c6, .slice A8 s1.Flat.length c9, .int .i64 s1.Full, .int .i64 s1.Gain, .int .i64 s1.Noise], .pointer (some ⟨b13, 0, none⟩), .int .i64 0, .int .i64 (w64 (s1.W * s1.H)), .pointer (some ⟨b13, 0, none⟩), .int .i64 s1.W, .pointer (some ⟨b13, 1, none⟩), .int .i64 s1.H, .int .i64 (w64 (s1.W * s1.H)), .bool false, .pointer (some ⟨b13, 0, none⟩), .int .i64 s1.W, .pointer (some ⟨b13, 1, none⟩), .int .i64 s1.H, .int .i64 (mn s1.W s1.H), .bool false, .bool false, .pointer (some ⟨b13, 0, none⟩), .int .i64 s1.W, .pointer (some ⟨b13, 1, none⟩), .int .i64 s1.H, .int .i64 (mx s1.W s1.H), .bool false, .bool false, undef, .pointer (some ⟨b13, 2, none⟩), .slice A2 s1.Bias.length c3, .int .i64 (s1.Bias.length : Int), .int .i64 (w64 (s1.W * s1.H)), .bool false, .bool false, .pointer (some ⟨b13, 3, none⟩), .slice A5 s1.Dark.length c6, .int .i64 (s1.Dark.length : Int), .int .i64 (w64 (s1.W * s1.H)), .bool ((s1.Dark.length : Int) != (w64 (s1.W * s1.H))), .bool ((s1.Dark.length : Int) != (w64 (s1.W * s1.H))), .bool ((s1.Dark.length : Int) != (w64 (s1.W * s1.H))), undef, undef, undef, undef, undef, undef, undef, undef, undef, undef, undef, undef, undef, undef, undef, undef, undef, undef, undef, undef, undef, undef, undef, undef, undef, undef, undef, undef, undef, undef, undef, undef, undef, undef, undef, undef, undef, undef, undef, undef, undef, undef, undef, undef, undef, undef, undef, undef, undef], []⟩) (by kernel_rfl) ?_
        have hq_ := ite_some h; clear h; rcases hq_ with ⟨c42, h⟩ | ⟨c42, h⟩
        · have c42 : (s1.Dark.length : Int) ≠ (w64 (s1.W * s1.H)) := c42
          refine seqRwI 35 (x := ((s1.Dark.length : Int) != (w64 (s1.W * s1.H)))) (v := true) (by kernel_rfl) (bne_iff_ne.mpr c42) ?_
          refine seqRwI 36 (x := ((s1.Dark.length : Int) != (w64 (s1.W * s1.H)))) (v := true) (by kernel_rfl) (bne_iff_ne.mpr c42) ?_
          refine seqRwI 37 (x := ((s1.Dark.length : Int) != (w64 (s1.W * s1.H)))) (v := true) (by kernel_rfl) (bne_iff_ne.mpr c42) ?_
          refine seqS7 (a' := ⟨#[.agg #[.int .i64 s1.W, .int .i64 s1.H, .slice A2 s1.Bias.length c3, .slice A5 s1.Dark.length c6, .slice A8 s1.Flat.length c9, .int .i64 s1.Full, .int .i64 s1.Gain, .int .i64 s1.Noise], .pointer (some ⟨b13, 0, none⟩), .int .i64 0, .int .i64 (w64 (s1.W * s1.H)), .pointer (some ⟨b13, 0, none⟩), .int .i64 s1.W, .pointer (some ⟨b13, 1, none⟩), .int .i64 s1.H, .int .i64 (w64 (s1.W * s1.H)), .bool false, .pointer (some ⟨b13, 0, none⟩), .int .i64 s1.W, .pointer (some ⟨b13, 1, none⟩), .int .i64 s1.H, .int .i64 (mn s1.W s1.H), .bool false, .bool false, .pointer (some ⟨b13, 0, none⟩), .int .i64 s1.W, .pointer (some ⟨b13, 1, none⟩), .int .i64 s1.H, .int .i64 (mx s1.W s1.H), .bool false, .bool false, .bool true, .pointer (some ⟨b13, 2, none⟩), .slice A2 s1.Bias.length c3, .int .i64 (s1.Bias.length : Int), .int .i64 (w64 (s1.W * s1.H)), .bool false, .bool false, .pointer (some ⟨b13, 3, none⟩), .slice A5 s1.Dark.length c6, .int .i64 (s1.Dark.length : Int), .int .i64 (w64 (s1.W * s1.H)), .bool true, .bool true, .bool true, undef, undef, undef, undef, undef, .bool true, undef, undef, undef, undef, undef, undef, undef, undef, undef, undef, undef, undef, undef, undef, undef, undef, undef, undef, undef, undef, undef, undef, undef, undef, undef, undef, undef, undef, undef, undef, undef, undef, undef, undef, undef, undef, undef, undef, undef, undef, undef, undef, undef], []⟩) (by kernel_rfl) ?_
          refine wpList_nil ?_
          refine hK38 _ _ ?_
          refine condT (by kernel_rfl) ?_
          refine wp_seq_k (fun K43 hK44 => ?_)
          refine wp_region_lit ?_
          refine seqS1 (a' := ⟨#[.agg #[.int .i64 s1.W, .int .i64 s1.H, .slice A2 s1.Bias.length c3, .slice A5 s1.Dark.length c6, .slice A8 s1.Flat.length c9, .int .i64 s1.Full, .int .i64 s1.Gain, .int .i64 s1.Noise], .pointer (some ⟨b13, 0, none⟩), .int .i64 3, .int .i64 (w64 (s1.W * s1.H)), .pointer (some ⟨b13, 0, none⟩), .int .i64 s1.W, .pointer (some ⟨b13, 1, none⟩), .int .i64 s1.H, .int .i64 (w64 (s1.W * s1.H)), .bool false, .pointer (some ⟨b13, 0, none⟩), .int .i64 s1.W, .pointer (some ⟨b13, 1, none⟩), .int .i64 s1.H, .int .i64 (mn s1.W s1.H), .bool false, .bool false, .pointer (some ⟨b13, 0, none⟩), .int .i64 s1.W, .pointer (some ⟨b13, 1, none⟩), .int .i64 s1.H, .int .i64 (mx s1.W s1.H), .bool false, .bool false, .bool true, .pointer (some ⟨b13, 2, none⟩), .slice A2 s1.Bias.length c3, .int .i64 (s1.Bias.length : Int), .int .i64 (w64 (s1.W * s1.H)), .bool false, .bool false, .pointer (some ⟨b13, 3, none⟩), .slice A5 s1.Dark.length c6, .int .i64 (s1.Dark.length : Int), .int .i64 (w64 (s1.W * s1.H)), .bool true, .bool true, .bool true, undef, undef, undef, undef, undef, .bool true, undef, undef, undef, undef, undef, undef, undef, undef, undef, undef, undef, undef, undef, undef, undef, undef, undef, undef, undef, undef, undef, undef, undef, undef, undef, undef, undef, undef, undef, undef, undef, undef, undef, undef, undef, undef, undef, undef, undef, undef, undef, undef, undef], []⟩) (by kernel_rfl) ?_
          refine wpList_nil ?_
          refine hK44 _ _ ?_
          refine wp_ret ?_
          refine hr24 _ _ ?_
          refine hret _ _ ?_
          refine ends_still (v := Value.int .i64 3) (by kernel_rfl) (by kernel_rfl) ?_
          have HS105 := HS15.drop
          injection h with h
          subst h
          exact ⟨f, rfl, FM.le.refl _, HS105⟩
        · have c42 : ¬ ((s1.Dark.length : Int) ≠ (w64 (s1.W * s1.H))) := c42
          refine seqRwI 35 (x := ((s1.Dark.length : Int) != (w64 (s1.W * s1.H)))) (v := false) (by kernel_rfl) (bne_eq_false_iff_eq.mpr (Decidable.of_not_not c42)) ?_
          refine seqRwI 36 (x := ((s1.Dark.length : Int) != (w64 (s1.W * s1.H)))) (v := false) (by kernel_rfl) (bne_eq_false_iff_eq.mpr (Decidable.of_not_not c42)) ?_
          refine seqRwI 37 (x := ((s1.Dark.length : Int) != (w64 (s1.W * s1.H)))) (v := false) (by kernel_rfl) (bne_eq_false_iff_eq.mpr (Decidable.of_not_not c42)) ?_
          refine seqL1 (by kernel_rfl) ?_
          refine seqG (by kernel_rfl) (does_run (run_load rfl Try.underlying22 rfl (by kernel_rfl : _ = Value.pointer (some ⟨b13, 4, none⟩)) (HS15.cell 4)) ?_)
          refine seqS5 (a' := ⟨#[.agg #[.int .i64 s1.W, .int .i64 s1.H, .slice A2 s1.Bias.length c3, .slice A5 s1.Dark.length c6, .slice A8 s1.Flat.length c9, .int .i64 s1.Full, .int .i64 s1.Gain, .int .i64 s1.Noise], .pointer (some ⟨b13, 0, none⟩), .int .i64 0, .int .i64 (w64 (s1.W * s1.H)), .pointer (some ⟨b13, 0, none⟩), .int .i64 s1.W, .pointer (some ⟨b13, 1, none⟩), .int .i64 s1.H, .int .i64 (w64 (s1.W * s1.H)), .bool false, .pointer (some ⟨b13, 0, none⟩), .int .i64 s1.W, .pointer (some ⟨b13, 1, none⟩), .int .i64 s1.H, .int .i64 (mn s1.W s1.H), .bool false, .bool false, .pointer (some ⟨b13, 0, none⟩), .int .i64 s1.W, .pointer (some ⟨b13, 1, none⟩), .int .i64 s1.H, .int .i64 (mx s1.W s1.H), .bool false, .bool false, .bool ((s1.Flat.length : Int) != (w64 (s1.W * s1.H))), .pointer (some ⟨b13, 2, none⟩), .slice A2 s1.Bias.length c3, .int .i64 (s1.Bias.length : Int), .int .i64 (w64 (s1.W * s1.H)), .bool false, .bool false, .pointer (some ⟨b13, 3, none⟩), .slice A5 s1.Dark.length c6, .int .i64 (s1.Dark.length : Int), .int .i64 (w64 (s1.W * s1.H)), .bool false, .bool false, .bool false, .pointer (some ⟨b13, 4, none⟩), .slice A8 s1.Flat.length c9, .int .i64 (s1.Flat.length : Int), .int .i64 (w64 (s1.W * s1.H)), .bool ((s1.Flat.length : Int) != (w64 (s1.W * s1.H))), .bool ((s1.Flat.length : Int) != (w64 (s1.W * s1.H))), undef, undef, undef, undef, undef, undef, undef, undef, undef, undef, undef, undef, undef, undef, undef, undef, undef, undef, undef, undef, undef, undef, undef, undef, undef, undef, undef, undef, undef, undef, undef, undef, undef, undef, undef, undef, undef, undef, undef, undef, undef, undef, undef], []⟩) (by kernel_rfl) ?_
          refine wpList_nil ?_
          refine hK38 _ _ ?_
          have hq_ := ite_some h; clear h; rcases hq_ with ⟨c46, h⟩ | ⟨c46, h⟩
          · have c46 : (s1.Flat.length : Int) ≠ (w64 (s1.W * s1.H)) := c46
            refine wpRwI 24 (x := ((s1.Flat.length : Int) != (w64 (s1.W * s1.H)))) (v := true) (by kernel_rfl) (bne_iff_ne.mpr c46) ?_
            refine wpRwI 42 (x := ((s1.Flat.length : Int) != (w64 (s1.W * s1.H)))) (v := true) (by kernel_rfl) (bne_iff_ne.mpr c46) ?_
            refine wpRwI 43 (x := ((s1.Flat.length : Int) != (w64 (s1.W * s1.H)))) (v := true) (by kernel_rfl) (bne_iff_ne.mpr c46) ?_
            refine condT (by kernel_rfl) ?_
            refine wp_seq_k (fun K47 hK48 => ?_)
            refine wp_region_lit ?_
            refine seqS1 (a' := ⟨#[.agg #[.int .i64 s1.W, .int .i64 s1.H, .slice A2 s1.Bias.length c3, .slice A5 s1.Dark.length c6, .slice A8 s1.Flat.length c9, .int .i64 s1.Full, .int .i64 s1.Gain, .int .i64 s1.Noise], .pointer (some ⟨b13, 0, none⟩), .int .i64 3, .int .i64 (w64 (s1.W * s1.H)), .pointer (some ⟨b13, 0, none⟩), .int .i64 s1.W, .pointer (some ⟨b13, 1, none⟩), .int .i64 s1.H, .int .i64 (w64 (s1.W * s1.H)), .bool false, .pointer (some ⟨b13, 0, none⟩), .int .i64 s1.W, .pointer (some ⟨b13, 1, none⟩), .int .i64 s1.H, .int .i64 (mn s1.W s1.H), .bool false, .bool false, .pointer (some ⟨b13, 0, none⟩), .int .i64 s1.W, .pointer (some ⟨b13, 1, none⟩), .int .i64 s1.H, .int .i64 (mx s1.W s1.H), .bool false, .bool false, .bool true, .pointer (some ⟨b13, 2, none⟩), .slice A2 s1.Bias.length c3, .int .i64 (s1.Bias.length : Int), .int .i64 (w64 (s1.W * s1.H)), .bool false, .bool false, .pointer (some ⟨b13, 3, none⟩), .slice A5 s1.Dark.length c6, .int .i64 (s1.Dark.length : Int), .int .i64 (w64 (s1.W * s1.H)), .bool false, .bool false, .bool false, .pointer (some ⟨b13, 4, none⟩), .slice A8 s1.Flat.length c9, .int .i64 (s1.Flat.length : Int), .int .i64 (w64 (s1.W * s1.H)), .bool true, .bool true, undef, undef, undef, undef, undef, undef, undef, undef, undef, undef, undef, undef, undef, undef, undef, undef, undef, undef, undef, undef, undef, undef, undef, undef, undef, undef, undef, undef, undef, undef, undef, undef, undef, undef, undef, undef, undef, undef, undef, undef, undef, undef, undef], []⟩) (by kernel_rfl) ?_
            refine wpList_nil ?_
            refine hK48 _ _ ?_
            refine wp_ret ?_
            refine hr24 _ _ ?_
            refine hret _ _ ?_
            refine ends_still (v := Value.int .i64 3) (by kernel_rfl) (by kernel_rfl) ?_
            have HS106 := HS15.drop
            injection h with h
            subst h
            exact ⟨f, rfl, FM.le.refl _, HS106⟩
          · have c46 : ¬ ((s1.Flat.length : Int) ≠ (w64 (s1.W * s1.H))) := c46
            refine wpRwI 24 (x := ((s1.Flat.length : Int) != (w64 (s1.W * s1.H)))) (v := false) (by kernel_rfl) (bne_eq_false_iff_eq.mpr (Decidable.of_not_not c46)) ?_
            refine wpRwI 42 (x := ((s1.Flat.length : Int) != (w64 (s1.W * s1.H)))) (v := false) (by kernel_rfl) (bne_eq_false_iff_eq.mpr (Decidable.of_not_not c46)) ?_
            refine wpRwI 43 (x := ((s1.Flat.length : Int) != (w64 (s1.W * s1.H)))) (v := false) (by kernel_rfl) (bne_eq_false_iff_eq.mpr (Decidable.of_not_not c46)) ?_
            refine condF (by kernel_rfl) ?_
            refine wp_seq_k (fun K49 hK50 => ?_)
            refine wp_region_lit ?_
            refine seqL1 (by kernel_rfl) ?_
            refine seqK rfl (does_run (run_load rfl Try.underlying22 rfl (by kernel_rfl : _ = Value.pointer (some ⟨b13, 2, none⟩)) (HS15.cell 2)) ?_)
            have hq_ := bind_some h; clear h; obtain ⟨vt51, hc52, h⟩ := hq_
            refine seqK rfl (does_call (f := 115) (args := #[.slice A2 s1.Bias.length c3, .int .i64 4096]) (by kernel_rfl) (sensor_outside_int.calls k A2 c3 s1.Bias 4096 HS15 HR4 vt51 hc52) ?_)
            rintro _ W55 ⟨f53, rfl, L54, HS56⟩
            refine ⟨_, rfl, ?_⟩
            refine seqS1 (a' := ⟨#[.agg #[.int .i64 s1.W, .int .i64 s1.H, .slice A2 s1.Bias.length c3, .slice A5 s1.Dark.length c6, .slice A8 s1.Flat.length c9, .int .i64 s1.Full, .int .i64 s1.Gain, .int .i64 s1.Noise], .pointer (some ⟨b13, 0, none⟩), .int .i64 0, .int .i64 (w64 (s1.W * s1.H)), .pointer (some ⟨b13, 0, none⟩), .int .i64 s1.W, .pointer (some ⟨b13, 1, none⟩), .int .i64 s1.H, .int .i64 (w64 (s1.W * s1.H)), .bool false, .pointer (some ⟨b13, 0, none⟩), .int .i64 s1.W, .pointer (some ⟨b13, 1, none⟩), .int .i64 s1.H, .int .i64 (mn s1.W s1.H), .bool false, .bool false, .pointer (some ⟨b13, 0, none⟩), .int .i64 s1.W, .pointer (some ⟨b13, 1, none⟩), .int .i64 s1.H, .int .i64 (mx s1.W s1.H), .bool false, .bool false, .bool false, .pointer (some ⟨b13, 2, none⟩), .slice A2 s1.Bias.length c3, .int .i64 (s1.Bias.length : Int), .int .i64 (w64 (s1.W * s1.H)), .bool false, .bool false, .pointer (some ⟨b13, 3, none⟩), .slice A5 s1.Dark.length c6, .int .i64 (s1.Dark.length : Int), .int .i64 (w64 (s1.W * s1.H)), .bool false, .bool false, .bool false, .pointer (some ⟨b13, 4, none⟩), .slice A8 s1.Flat.length c9, .int .i64 (s1.Flat.length : Int), .int .i64 (w64 (s1.W * s1.H)), .bool false, .bool false, undef, .pointer (some ⟨b13, 2, none⟩), .slice A2 s1.Bias.length c3, .bool vt51, .bool vt51, undef, undef, undef, undef, undef, undef, undef, undef, undef, undef, undef, undef, undef, undef, undef, undef, undef, undef, undef, undef, undef, undef, undef, undef, undef, undef, undef, undef, undef, undef, undef, undef, undef, undef, undef, undef, undef, undef], []⟩) (by kernel_rfl) ?_
            have hq_ := ite_some h; clear h; rcases hq_ with ⟨c57, h⟩ | ⟨c57, h⟩
            · have c57 : vt51 = true := c57
              refine seqRwI 47 (x := vt51) (v := true) (by kernel_rfl) c57 ?_
              refine seqRwI 48 (x := vt51) (v := true) (by kernel_rfl) c57 ?_
              refine seqS10 (a' := ⟨#[.agg #[.int .i64 s1.W, .int .i64 s1.H, .slice A2 s1.Bias.length c3, .slice A5 s1.Dark.length c6, .slice A8 s1.Flat.length c9, .int .i64 s1.Full, .int .i64 s1.Gain, .int .i64 s1.Noise], .pointer (some ⟨b13, 0, none⟩), .int .i64 0, .int .i64 (w64 (s1.W * s1.H)), .pointer (some ⟨b13, 0, none⟩), .int .i64 s1.W, .pointer (some ⟨b13, 1, none⟩), .int .i64 s1.H, .int .i64 (w64 (s1.W * s1.H)), .bool false, .pointer (some ⟨b13, 0, none⟩), .int .i64 s1.W, .pointer (some ⟨b13, 1, none⟩), .int .i64 s1.H, .int .i64 (mn s1.W s1.H), .bool false, .bool false, .pointer (some ⟨b13, 0, none⟩), .int .i64 s1.W, .pointer (some ⟨b13, 1, none⟩), .int .i64 s1.H, .int .i64 (mx s1.W s1.H), .bool false, .bool false, .bool false, .pointer (some ⟨b13, 2, none⟩), .slice A2 s1.Bias.length c3, .int .i64 (s1.Bias.length : Int), .int .i64 (w64 (s1.W * s1.H)), .bool false, .bool false, .pointer (some ⟨b13, 3, none⟩), .slice A5 s1.Dark.length c6, .int .i64 (s1.Dark.length : Int), .int .i64 (w64 (s1.W * s1.H)), .bool false, .bool false, .bool false, .pointer (some ⟨b13, 4, none⟩), .slice A8 s1.Flat.length c9, .int .i64 (s1.Flat.length : Int), .int .i64 (w64 (s1.W * s1.H)), .bool false, .bool false, .bool true, .pointer (some ⟨b13, 2, none⟩), .slice A2 s1.Bias.length c3, .bool true, .bool true, undef, undef, undef, .bool true, .bool true, undef, undef, undef, .bool true, undef, undef, undef, undef, undef, undef, undef, undef, undef, undef, undef, undef, undef, undef, undef, undef, undef, undef, undef, undef, undef, undef, undef, undef, undef, undef, undef, undef, undef], []⟩) (by kernel_rfl) ?_
              refine wpList_nil ?_
              refine hK50 _ _ ?_
              refine condT (by kernel_rfl) ?_
              refine wp_seq_k (fun K58 hK59 => ?_)
              refine wp_region_lit ?_
              refine seqS1 (a' := ⟨#[.agg #[.int .i64 s1.W, .int .i64 s1.H, .slice A2 s1.Bias.length c3, .slice A5 s1.Dark.length c6, .slice A8 s1.Flat.length c9, .int .i64 s1.Full, .int .i64 s1.Gain, .int .i64 s1.Noise], .pointer (some ⟨b13, 0, none⟩), .int .i64 4, .int .i64 (w64 (s1.W * s1.H)), .pointer (some ⟨b13, 0, none⟩), .int .i64 s1.W, .pointer (some ⟨b13, 1, none⟩), .int .i64 s1.H, .int .i64 (w64 (s1.W * s1.H)), .bool false, .pointer (some ⟨b13, 0, none⟩), .int .i64 s1.W, .pointer (some ⟨b13, 1, none⟩), .int .i64 s1.H, .int .i64 (mn s1.W s1.H), .bool false, .bool false, .pointer (some ⟨b13, 0, none⟩), .int .i64 s1.W, .pointer (some ⟨b13, 1, none⟩), .int .i64 s1.H, .int .i64 (mx s1.W s1.H), .bool false, .bool false, .bool false, .pointer (some ⟨b13, 2, none⟩), .slice A2 s1.Bias.length c3, .int .i64 (s1.Bias.length : Int), .int .i64 (w64 (s1.W * s1.H)), .bool false, .bool false, .pointer (some ⟨b13, 3, none⟩), .slice A5 s1.Dark.length c6, .int .i64 (s1.Dark.length : Int), .int .i64 (w64 (s1.W * s1.H)), .bool false, .bool false, .bool false, .pointer (some ⟨b13, 4, none⟩), .slice A8 s1.Flat.length c9, .int .i64 (s1.Flat.length : Int), .int .i64 (w64 (s1.W * s1.H)), .bool false, .bool false, .bool true, .pointer (some ⟨b13, 2, none⟩), .slice A2 s1.Bias.length c3, .bool true, .bool true, undef, undef, undef, .bool true, .bool true, undef, undef, undef, .bool true, undef, undef, undef, undef, undef, undef, undef, undef, undef, undef, undef, undef, undef, undef, undef, undef, undef, undef, undef, undef, undef, undef, undef, undef, undef, undef, undef, undef, undef], []⟩) (by kernel_rfl) ?_
              refine wpList_nil ?_
              refine hK59 _ _ ?_
              refine wp_ret ?_
              refine hr24 _ _ ?_
              refine hret _ _ ?_
              refine ends_still (v := Value.int .i64 4) (by kernel_rfl) (by kernel_rfl) ?_
              have HS107 := HS56.drop
              injection h with h
              subst h
              exact ⟨f53, rfl, L54, HS107⟩
            · have c57 : ¬ (vt51 = true) := c57
              refine seqRwI 47 (x := vt51) (v := false) (by kernel_rfl) (Bool.eq_false_iff.mpr c57) ?_
              refine seqRwI 48 (x := vt51) (v := false) (by kernel_rfl) (Bool.eq_false_iff.mpr c57) ?_
              refine seqL1 (by kernel_rfl) ?_
              refine seqG (by kernel_rfl) (does_run (run_load rfl Try.underlying62 rfl (by kernel_rfl : _ = Value.pointer (some ⟨b13, 3, none⟩)) (HS56.cell 3)) ?_)
              have hq_ := bind_some h; clear h; obtain ⟨vt60, hc61, h⟩ := hq_
              refine seqG (by kernel_rfl) (does_call (f := 56) (args := #[.slice A5 s1.Dark.length c6, .int .i64 17592186044416]) (by kernel_rfl) (sensor_outside_Light.calls k A5 c6 s1.Dark 17592186044416 HS56 (HR7.mono L54) vt60 hc61) ?_)
              rintro _ W64 ⟨f62, rfl, L63, HS65⟩
              refine ⟨_, rfl, ?_⟩
              refine seqS2 (a' := ⟨#[.agg #[.int .i64 s1.W, .int .i64 s1.H, .slice A2 s1.Bias.length c3, .slice A5 s1.Dark.length c6, .slice A8 s1.Flat.length c9, .int .i64 s1.Full, .int .i64 s1.Gain, .int .i64 s1.Noise], .pointer (some ⟨b13, 0, none⟩), .int .i64 0, .int .i64 (w64 (s1.W * s1.H)), .pointer (some ⟨b13, 0, none⟩), .int .i64 s1.W, .pointer (some ⟨b13, 1, none⟩), .int .i64 s1.H, .int .i64 (w64 (s1.W * s1.H)), .bool false, .pointer (some ⟨b13, 0, none⟩), .int .i64 s1.W, .pointer (some ⟨b13, 1, none⟩), .int .i64 s1.H, .int .i64 (mn s1.W s1.H), .bool false, .bool false, .pointer (some ⟨b13, 0, none⟩), .int .i64 s1.W, .pointer (some ⟨b13, 1, none⟩), .int .i64 s1.H, .int .i64 (mx s1.W s1.H), .bool false, .bool false, .bool false, .pointer (some ⟨b13, 2, none⟩), .slice A2 s1.Bias.length c3, .int .i64 (s1.Bias.length : Int), .int .i64 (w64 (s1.W * s1.H)), .bool false, .bool false, .pointer (some ⟨b13, 3, none⟩), .slice A5 s1.Dark.length c6, .int .i64 (s1.Dark.length : Int), .int .i64 (w64 (s1.W * s1.H)), .bool false, .bool false, .bool false, .pointer (some ⟨b13, 4, none⟩), .slice A8 s1.Flat.length c9, .int .i64 (s1.Flat.length : Int), .int .i64 (w64 (s1.W * s1.H)), .bool false, .bool false, undef, .pointer (some ⟨b13, 2, none⟩), .slice A2 s1.Bias.length c3, .bool false, .bool false, .pointer (some ⟨b13, 3, none⟩), .slice A5 s1.Dark.length c6, .bool vt60, .bool vt60, .bool vt60, undef, undef, undef, undef, undef, undef, undef, undef, undef, undef, undef, undef, undef, undef, undef, undef, undef, undef, undef, undef, undef, undef, undef, undef, undef, undef, undef, undef, undef, undef, undef, undef, undef], []⟩) (by kernel_rfl) ?_
              have hq_ := ite_some h; clear h; rcases hq_ with ⟨c66, h⟩ | ⟨c66, h⟩
              · have c66 : vt60 = true := c66
                refine seqRwI 51 (x := vt60) (v := true) (by kernel_rfl) c66 ?_
                refine seqRwI 52 (x := vt60) (v := true) (by kernel_rfl) c66 ?_
                refine seqRwI 53 (x := vt60) (v := true) (by kernel_rfl) c66 ?_
                refine seqS5 (a' := ⟨#[.agg #[.int .i64 s1.W, .int .i64 s1.H, .slice A2 s1.Bias.length c3, .slice A5 s1.Dark.length c6, .slice A8 s1.Flat.length c9, .int .i64 s1.Full, .int .i64 s1.Gain, .int .i64 s1.Noise], .pointer (some ⟨b13, 0, none⟩), .int .i64 0, .int .i64 (w64 (s1.W * s1.H)), .pointer (some ⟨b13, 0, none⟩), .int .i64 s1.W, .pointer (some ⟨b13, 1, none⟩), .int .i64 s1.H, .int .i64 (w64 (s1.W * s1.H)), .bool false, .pointer (some ⟨b13, 0, none⟩), .int .i64 s1.W, .pointer (some ⟨b13, 1, none⟩), .int .i64 s1.H, .int .i64 (mn s1.W s1.H), .bool false, .bool false, .pointer (some ⟨b13, 0, none⟩), .int .i64 s1.W, .pointer (some ⟨b13, 1, none⟩), .int .i64 s1.H, .int .i64 (mx s1.W s1.H), .bool false, .bool false, .bool false, .pointer (some ⟨b13, 2, none⟩), .slice A2 s1.Bias.length c3, .int .i64 (s1.Bias.length : Int), .int .i64 (w64 (s1.W * s1.H)), .bool false, .bool false, .pointer (some ⟨b13, 3, none⟩), .slice A5 s1.Dark.length c6, .int .i64 (s1.Dark.length : Int), .int .i64 (w64 (s1.W * s1.H)), .bool false, .bool false, .bool false, .pointer (some ⟨b13, 4, none⟩), .slice A8 s1.Flat.length c9, .int .i64 (s1.Flat.length : Int), .int .i64 (w64 (s1.W * s1.H)), .bool false, .bool false, .bool true, .pointer (some ⟨b13, 2, none⟩), .slice A2 s1.Bias.length c3, .bool false, .bool false, .pointer (some ⟨b13, 3, none⟩), .slice A5 s1.Dark.length c6, .bool true, .bool true, .bool true, undef, undef, undef, .bool true, undef, undef, undef, undef, undef, undef, undef, undef, undef, undef, undef, undef, undef, undef, undef, undef, undef, undef, undef, undef, undef, undef, undef, undef, undef, undef, undef, undef, undef], []⟩) (by kernel_rfl) ?_
                refine wpList_nil ?_
                refine hK50 _ _ ?_
                refine condT (by kernel_rfl) ?_
                refine wp_seq_k (fun K67 hK68 => ?_)
                refine wp_region_lit ?_
                refine seqS1 (a' := ⟨#[.agg #[.int .i64 s1.W, .int .i64 s1.H, .slice A2 s1.Bias.length c3, .slice A5 s1.Dark.length c6, .slice A8 s1.Flat.length c9, .int .i64 s1.Full, .int .i64 s1.Gain, .int .i64 s1.Noise], .pointer (some ⟨b13, 0, none⟩), .int .i64 4, .int .i64 (w64 (s1.W * s1.H)), .pointer (some ⟨b13, 0, none⟩), .int .i64 s1.W, .pointer (some ⟨b13, 1, none⟩), .int .i64 s1.H, .int .i64 (w64 (s1.W * s1.H)), .bool false, .pointer (some ⟨b13, 0, none⟩), .int .i64 s1.W, .pointer (some ⟨b13, 1, none⟩), .int .i64 s1.H, .int .i64 (mn s1.W s1.H), .bool false, .bool false, .pointer (some ⟨b13, 0, none⟩), .int .i64 s1.W, .pointer (some ⟨b13, 1, none⟩), .int .i64 s1.H, .int .i64 (mx s1.W s1.H), .bool false, .bool false, .bool false, .pointer (some ⟨b13, 2, none⟩), .slice A2 s1.Bias.length c3, .int .i64 (s1.Bias.length : Int), .int .i64 (w64 (s1.W * s1.H)), .bool false, .bool false, .pointer (some ⟨b13, 3, none⟩), .slice A5 s1.Dark.length c6, .int .i64 (s1.Dark.length : Int), .int .i64 (w64 (s1.W * s1.H)), .bool false, .bool false, .bool false, .pointer (some ⟨b13, 4, none⟩), .slice A8 s1.Flat.length c9, .int .i64 (s1.Flat.length : Int), .int .i64 (w64 (s1.W * s1.H)), .bool false, .bool false, .bool true, .pointer (some ⟨b13, 2, none⟩), .slice A2 s1.Bias.length c3, .bool false, .bool false, .pointer (some ⟨b13, 3, none⟩), .slice A5 s1.Dark.length c6, .bool true, .bool true, .bool true, undef, undef, undef, .bool true, undef, undef, undef, undef, undef, undef, undef, undef, undef, undef, undef, undef, undef, undef, undef, undef, undef, undef, undef, undef, undef, undef, undef, undef, undef, undef, undef, undef, undef], []⟩) (by kernel_rfl) ?_
                refine wpList_nil ?_
                refine hK68 _ _ ?_
                refine wp_ret ?_
                refine hr24 _ _ ?_
                refine hret _ _ ?_
                refine ends_still (v := Value.int .i64 4) (by kernel_rfl) (by kernel_rfl) ?_
                have HS108 := HS65.drop
                injection h with h
                subst h
                exact ⟨f62, rfl, (L54.trans L63), HS108⟩
              · have c66 : ¬ (vt60 = true) := c66
                refine seqRwI 51 (x := vt60) (v := false) (by kernel_rfl) (Bool.eq_false_iff.mpr c66) ?_
                refine seqRwI 52 (x := vt60) (v := false) (by kernel_rfl) (Bool.eq_false_iff.mpr c66) ?_
                refine seqRwI 53 (x := vt60) (v := false) (by kernel_rfl) (Bool.eq_false_iff.mpr c66) ?_
                refine seqL1 (by kernel_rfl) ?_
                refine seqG (by kernel_rfl) (does_run (run_load rfl Try.underlying22 rfl (by kernel_rfl : _ = Value.pointer (some ⟨b13, 4, none⟩)) (HS65.cell 4)) ?_)
                have hq_ := bind_some h; clear h; obtain ⟨vt69, hc70, h⟩ := hq_
                refine seqG (by kernel_rfl) (does_call (f := 115) (args := #[.slice A8 s1.Flat.length c9, .int .i64 4096]) (by kernel_rfl) (sensor_outside_int.calls k A8 c9 s1.Flat 4096 HS65 (HR10.mono (L54.trans L63)) vt69 hc70) ?_)
                rintro _ W73 ⟨f71, rfl, L72, HS74⟩
                refine ⟨_, rfl, ?_⟩
                refine seqS2 (a' := ⟨#[.agg #[.int .i64 s1.W, .int .i64 s1.H, .slice A2 s1.Bias.length c3, .slice A5 s1.Dark.length c6, .slice A8 s1.Flat.length c9, .int .i64 s1.Full, .int .i64 s1.Gain, .int .i64 s1.Noise], .pointer (some ⟨b13, 0, none⟩), .int .i64 0, .int .i64 (w64 (s1.W * s1.H)), .pointer (some ⟨b13, 0, none⟩), .int .i64 s1.W, .pointer (some ⟨b13, 1, none⟩), .int .i64 s1.H, .int .i64 (w64 (s1.W * s1.H)), .bool false, .pointer (some ⟨b13, 0, none⟩), .int .i64 s1.W, .pointer (some ⟨b13, 1, none⟩), .int .i64 s1.H, .int .i64 (mn s1.W s1.H), .bool false, .bool false, .pointer (some ⟨b13, 0, none⟩), .int .i64 s1.W, .pointer (some ⟨b13, 1, none⟩), .int .i64 s1.H, .int .i64 (mx s1.W s1.H), .bool false, .bool false, .bool false, .pointer (some ⟨b13, 2, none⟩), .slice A2 s1.Bias.length c3, .int .i64 (s1.Bias.length : Int), .int .i64 (w64 (s1.W * s1.H)), .bool false, .bool false, .pointer (some ⟨b13, 3, none⟩), .slice A5 s1.Dark.length c6, .int .i64 (s1.Dark.length : Int), .int .i64 (w64 (s1.W * s1.H)), .bool false, .bool false, .bool false, .pointer (some ⟨b13, 4, none⟩), .slice A8 s1.Flat.length c9, .int .i64 (s1.Flat.length : Int), .int .i64 (w64 (s1.W * s1.H)), .bool false, .bool false, .bool vt69, .pointer (some ⟨b13, 2, none⟩), .slice A2 s1.Bias.length c3, .bool false, .bool false, .pointer (some ⟨b13, 3, none⟩), .slice A5 s1.Dark.length c6, .bool false, .bool false, .bool false, .pointer (some ⟨b13, 4, none⟩), .slice A8 s1.Flat.length c9, .bool vt69, .bool vt69, undef, undef, undef, undef, undef, undef, undef, undef, undef, undef, undef, undef, undef, undef, undef, undef, undef, undef, undef, undef, undef, undef, undef, undef, undef, undef, undef, undef, undef], []⟩) (by kernel_rfl) ?_
                refine wpList_nil ?_
                refine hK50 _ _ ?_
                have hq_ := ite_some h; clear h; rcases hq_ with ⟨c76, h⟩ | ⟨c76, h⟩
                · have c76 : vt69 = true := c76
                  refine wpRwI 44 (x := vt69) (v := true) (by kernel_rfl) c76 ?_
                  refine wpRwI 56 (x := vt69) (v := true) (by kernel_rfl) c76 ?_
                  refine wpRwI 57 (x := vt69) (v := true) (by kernel_rfl) c76 ?_
                  refine condT (by kernel_rfl) ?_
                  refine wp_seq_k (fun K77 hK78 => ?_)
                  refine wp_region_lit ?_
                  refine seqS1 (a' := ⟨#[.agg #[.int .i64 s1.W, .int .i64 s1.H, .slice A2 s1.Bias.length c3, .slice A5 s1.Dark.length c6, .slice A8 s1.Flat.length c9, .int .i64 s1.Full, .int .i64 s1.Gain, .int .i64 s1.Noise], .pointer (some ⟨b13, 0, none⟩), .int .i64 4, .int .i64 (w64 (s1.W * s1.H)), .pointer (some ⟨b13, 0, none⟩), .int .i64 s1.W, .pointer (some ⟨b13, 1, none⟩), .int .i64 s1.H, .int .i64 (w64 (s1.W * s1.H)), .bool false, .pointer (some ⟨b13, 0, none⟩), .int .i64 s1.W, .pointer (some ⟨b13, 1, none⟩), .int .i64 s1.H, .int .i64 (mn s1.W s1.H), .bool false, .bool false, .pointer (some ⟨b13, 0, none⟩), .int .i64 s1.W, .pointer (some ⟨b13, 1, none⟩), .int .i64 s1.H, .int .i64 (mx s1.W s1.H), .bool false, .bool false, .bool false, .pointer (some ⟨b13, 2, none⟩), .slice A2 s1.Bias.length c3, .int .i64 (s1.Bias.length : Int), .int .i64 (w64 (s1.W * s1.H)), .bool false, .bool false, .pointer (some ⟨b13, 3, none⟩), .slice A5 s1.Dark.length c6, .int .i64 (s1.Dark.length : Int), .int .i64 (w64 (s1.W * s1.H)), .bool false, .bool false, .bool false, .pointer (some ⟨b13, 4, none⟩), .slice A8 s1.Flat.length c9, .int .i64 (s1.Flat.length : Int), .int .i64 (w64 (s1.W * s1.H)), .bool false, .bool false, .bool true, .pointer (some ⟨b13, 2, none⟩), .slice A2 s1.Bias.length c3, .bool false, .bool false, .pointer (some ⟨b13, 3, none⟩), .slice A5 s1.Dark.length c6, .bool false, .bool false, .bool false, .pointer (some ⟨b13, 4, none⟩), .slice A8 s1.Flat.length c9, .bool true, .bool true, undef, undef, undef, undef, undef, undef, undef, undef, undef, undef, undef, undef, undef, undef, undef, undef, undef, undef, undef, undef, undef, undef, undef, undef, undef, undef, undef, undef, undef], []⟩) (by kernel_rfl) ?_
                  refine wpList_nil ?_
                  refine hK78 _ _ ?_
                  refine wp_ret ?_
                  refine hr24 _ _ ?_
                  refine hret _ _ ?_
                  refine ends_still (v := Value.int .i64 4) (by kernel_rfl) (by kernel_rfl) ?_
                  have HS109 := HS74.drop
                  injection h with h
                  subst h
                  exact ⟨f71, rfl, (L54.trans (L63.trans L72)), HS109⟩
                · have c76 : ¬ (vt69 = true) := c76
                  refine wpRwI 44 (x := vt69) (v := false) (by kernel_rfl) (Bool.eq_false_iff.mpr c76) ?_
                  refine wpRwI 56 (x := vt69) (v := false) (by kernel_rfl) (Bool.eq_false_iff.mpr c76) ?_
                  refine wpRwI 57 (x := vt69) (v := false) (by kernel_rfl) (Bool.eq_false_iff.mpr c76) ?_
                  refine condF (by kernel_rfl) ?_
                  refine wp_seq_k (fun K79 hK80 => ?_)
                  refine wp_region_lit ?_
                  refine seqL1 (by kernel_rfl) ?_
                  refine seqK rfl (does_run (run_load rfl Try.underlying42 rfl (by kernel_rfl : _ = Value.pointer (some ⟨b13, 5, none⟩)) (HS74.cell 5)) ?_)
                  refine seqS2 (a' := ⟨#[.agg #[.int .i64 s1.W, .int .i64 s1.H, .slice A2 s1.Bias.length c3, .slice A5 s1.Dark.length c6, .slice A8 s1.Flat.length c9, .int .i64 s1.Full, .int .i64 s1.Gain, .int .i64 s1.Noise], .pointer (some ⟨b13, 0, none⟩), .int .i64 0, .int .i64 (w64 (s1.W * s1.H)), .pointer (some ⟨b13, 0, none⟩), .int .i64 s1.W, .pointer (some ⟨b13, 1, none⟩), .int .i64 s1.H, .int .i64 (w64 (s1.W * s1.H)), .bool false, .pointer (some ⟨b13, 0, none⟩), .int .i64 s1.W, .pointer (some ⟨b13, 1, none⟩), .int .i64 s1.H, .int .i64 (mn s1.W s1.H), .bool false, .bool false, .pointer (some ⟨b13, 0, none⟩), .int .i64 s1.W, .pointer (some ⟨b13, 1, none⟩), .int .i64 s1.H, .int .i64 (mx s1.W s1.H), .bool false, .bool false, .bool false, .pointer (some ⟨b13, 2, none⟩), .slice A2 s1.Bias.length c3, .int .i64 (s1.Bias.length : Int), .int .i64 (w64 (s1.W * s1.H)), .bool false, .bool false, .pointer (some ⟨b13, 3, none⟩), .slice A5 s1.Dark.length c6, .int .i64 (s1.Dark.length : Int), .int .i64 (w64 (s1.W * s1.H)), .bool false, .bool false, .bool false, .pointer (some ⟨b13, 4, none⟩), .slice A8 s1.Flat.length c9, .int .i64 (s1.Flat.length : Int), .int .i64 (w64 (s1.W * s1.H)), .bool false, .bool false, .bool false, .pointer (some ⟨b13, 2, none⟩), .slice A2 s1.Bias.length c3, .bool false, .bool false, .pointer (some ⟨b13, 3, none⟩), .slice A5 s1.Dark.length c6, .bool false, .bool false, .bool false, .pointer (some ⟨b13, 4, none⟩), .slice A8 s1.Flat.length c9, .bool false, .bool false, undef, .pointer (some ⟨b13, 5, none⟩), .int .i64 s1.Full, .bool (decide (s1.Full < 1)), .bool (decide (s1.Full < 1)), undef, undef, undef, undef, undef, undef, undef, undef, undef, undef, undef, undef, undef, undef, undef, undef, undef, undef, undef, undef, undef, undef, undef, undef], []⟩) (by kernel_rfl) ?_
                  have hq_ := ite_some h; clear h; rcases hq_ with ⟨c81, h⟩ | ⟨c81, h⟩
                  · have c81 : s1.Full < 1 := c81
                    refine seqRwI 61 (x := (decide (s1.Full < 1))) (v := true) (by kernel_rfl) (decide_eq_true c81) ?_
                    refine seqRwI 62 (x := (decide (s1.Full < 1))) (v := true) (by kernel_rfl) (decide_eq_true c81) ?_
                    refine seqS25 (a' := ⟨#[.agg #[.int .i64 s1.W, .int .i64 s1.H, .slice A2 s1.Bias.length c3, .slice A5 s1.Dark.length c6, .slice A8 s1.Flat.length c9, .int .i64 s1.Full, .int .i64 s1.Gain, .int .i64 s1.Noise], .pointer (some ⟨b13, 0, none⟩), .int .i64 0, .int .i64 (w64 (s1.W * s1.H)), .pointer (some ⟨b13, 0, none⟩), .int .i64 s1.W, .pointer (some ⟨b13, 1, none⟩), .int .i64 s1.H, .int .i64 (w64 (s1.W * s1.H)), .bool false, .pointer (some ⟨b13, 0, none⟩), .int .i64 s1.W, .pointer (some ⟨b13, 1, none⟩), .int .i64 s1.H, .int .i64 (mn s1.W s1.H), .bool false, .bool false, .pointer (some ⟨b13, 0, none⟩), .int .i64 s1.W, .pointer (some ⟨b13, 1, none⟩), .int .i64 s1.H, .int .i64 (mx s1.W s1.H), .bool false, .bool false, .bool false, .pointer (some ⟨b13, 2, none⟩), .slice A2 s1.Bias.length c3, .int .i64 (s1.Bias.length : Int), .int .i64 (w64 (s1.W * s1.H)), .bool false, .bool false, .pointer (some ⟨b13, 3, none⟩), .slice A5 s1.Dark.length c6, .int .i64 (s1.Dark.length : Int), .int .i64 (w64 (s1.W * s1.H)), .bool false, .bool false, .bool false, .pointer (some ⟨b13, 4, none⟩), .slice A8 s1.Flat.length c9, .int .i64 (s1.Flat.length : Int), .int .i64 (w64 (s1.W * s1.H)), .bool false, .bool false, .bool false, .pointer (some ⟨b13, 2, none⟩), .slice A2 s1.Bias.length c3, .bool false, .bool false, .pointer (some ⟨b13, 3, none⟩), .slice A5 s1.Dark.length c6, .bool false, .bool false, .bool false, .pointer (some ⟨b13, 4, none⟩), .slice A8 s1.Flat.length c9, .bool false, .bool false, .bool true, .pointer (some ⟨b13, 5, none⟩), .int .i64 s1.Full, .bool true, .bool true, undef, undef, undef, .bool true, .bool true, undef, undef, undef, .bool true, .bool true, undef, undef, undef, .bool true, .bool true, undef, undef, undef, .bool true, .bool true, undef, undef, undef, .bool true], []⟩) (by kernel_rfl) ?_
                    refine wpList_nil ?_
                    refine hK80 _ _ ?_
                    refine condT (by kernel_rfl) ?_
                    refine wp_seq_k (fun K82 hK83 => ?_)
                    refine wp_region_lit ?_
                    refine seqS1 (a' := ⟨#[.agg #[.int .i64 s1.W, .int .i64 s1.H, .slice A2 s1.Bias.length c3, .slice A5 s1.Dark.length c6, .slice A8 s1.Flat.length c9, .int .i64 s1.Full, .int .i64 s1.Gain, .int .i64 s1.Noise], .pointer (some ⟨b13, 0, none⟩), .int .i64 4, .int .i64 (w64 (s1.W * s1.H)), .pointer (some ⟨b13, 0, none⟩), .int .i64 s1.W, .pointer (some ⟨b13, 1, none⟩), .int .i64 s1.H, .int .i64 (w64 (s1.W * s1.H)), .bool false, .pointer (some ⟨b13, 0, none⟩), .int .i64 s1.W, .pointer (some ⟨b13, 1, none⟩), .int .i64 s1.H, .int .i64 (mn s1.W s1.H), .bool false, .bool false, .pointer (some ⟨b13, 0, none⟩), .int .i64 s1.W, .pointer (some ⟨b13, 1, none⟩), .int .i64 s1.H, .int .i64 (mx s1.W s1.H), .bool false, .bool false, .bool false, .pointer (some ⟨b13, 2, none⟩), .slice A2 s1.Bias.length c3, .int .i64 (s1.Bias.length : Int), .int .i64 (w64 (s1.W * s1.H)), .bool false, .bool false, .pointer (some ⟨b13, 3, none⟩), .slice A5 s1.Dark.length c6, .int .i64 (s1.Dark.length : Int), .int .i64 (w64 (s1.W * s1.H)), .bool false, .bool false, .bool false, .pointer (some ⟨b13, 4, none⟩), .slice A8 s1.Flat.length c9, .int .i64 (s1.Flat.length : Int), .int .i64 (w64 (s1.W * s1.H)), .bool false, .bool false, .bool false, .pointer (some ⟨b13, 2, none⟩), .slice A2 s1.Bias.length c3, .bool false, .bool false, .pointer (some ⟨b13, 3, none⟩), .slice A5 s1.Dark.length c6, .bool false, .bool false, .bool false, .pointer (some ⟨b13, 4, none⟩), .slice A8 s1.Flat.length c9, .bool false, .bool false, .bool true, .pointer (some ⟨b13, 5, none⟩), .int .i64 s1.Full, .bool true, .bool true, undef, undef, undef, .bool true, .bool true, undef, undef, undef, .bool true, .bool true, undef, undef, undef, .bool true, .bool true, undef, undef, undef, .bool true, .bool true, undef, undef, undef, .bool true], []⟩) (by kernel_rfl) ?_
                    refine wpList_nil ?_
                    refine hK83 _ _ ?_
                    refine wp_ret ?_
                    refine hr24 _ _ ?_
                    refine hret _ _ ?_
                    refine ends_still (v := Value.int .i64 4) (by kernel_rfl) (by kernel_rfl) ?_
                    have HS110 := HS74.drop
                    injection h with h
                    subst h
                    exact ⟨f71, rfl, (L54.trans (L63.trans L72)), HS110⟩
                  · have c81 : ¬ (s1.Full < 1) := c81
                    refine seqRwI 61 (x := (decide (s1.Full < 1))) (v := false) (by kernel_rfl) (decide_eq_false c81) ?_
                    refine seqRwI 62 (x := (decide (s1.Full < 1))) (v := false) (by kernel_rfl) (decide_eq_false c81) ?_
                    refine seqL1 (by kernel_rfl) ?_
                    refine seqG (by kernel_rfl) (does_run (run_load rfl Try.underlying42 rfl (by kernel_rfl : _ = Value.pointer (some ⟨b13, 5, none⟩)) (HS74.cell 5)) ?_)
                    refine seqS3 (a' := ⟨#[.agg #[.int .i64 s1.W, .int .i64 s1.H, .slice A2 s1.Bias.length c3, .slice A5 s1.Dark.length c6, .slice A8 s1.Flat.length c9, .int .i64 s1.Full, .int .i64 s1.Gain, .int .i64 s1.Noise], .pointer (some ⟨b13, 0, none⟩), .int .i64 0, .int .i64 (w64 (s1.W * s1.H)), .pointer (some ⟨b13, 0, none⟩), .int .i64 s1.W, .pointer (some ⟨b13, 1, none⟩), .int .i64 s1.H, .int .i64 (w64 (s1.W * s1.H)), .bool false, .pointer (some ⟨b13, 0, none⟩), .int .i64 s1.W, .pointer (some ⟨b13, 1, none⟩), .int .i64 s1.H, .int .i64 (mn s1.W s1.H), .bool false, .bool false, .pointer (some ⟨b13, 0, none⟩), .int .i64 s1.W, .pointer (some ⟨b13, 1, none⟩), .int .i64 s1.H, .int .i64 (mx s1.W s1.H), .bool false, .bool false, .bool false, .pointer (some ⟨b13, 2, none⟩), .slice A2 s1.Bias.length c3, .int .i64 (s1.Bias.length : Int), .int .i64 (w64 (s1.W * s1.H)), .bool false, .bool false, .pointer (some ⟨b13, 3, none⟩), .slice A5 s1.Dark.length c6, .int .i64 (s1.Dark.length : Int), .int .i64 (w64 (s1.W * s1.H)), .bool false, .bool false, .bool false, .pointer (some ⟨b13, 4, none⟩), .slice A8 s1.Flat.length c9, .int .i64 (s1.Flat.length : Int), .int .i64 (w64 (s1.W * s1.H)), .bool false, .bool false, .bool false, .pointer (some ⟨b13, 2, none⟩), .slice A2 s1.Bias.length c3, .bool false, .bool false, .pointer (some ⟨b13, 3, none⟩), .slice A5 s1.Dark.length c6, .bool false, .bool false, .bool false, .pointer (some ⟨b13, 4, none⟩), .slice A8 s1.Flat.length c9, .bool false, .bool false, undef, .pointer (some ⟨b13, 5, none⟩), .int .i64 s1.Full, .bool false, .bool false, .pointer (some ⟨b13, 5, none⟩), .int .i64 s1.Full, .bool (decide (s1.Full > 1048576)), .bool (decide (s1.Full > 1048576)), .bool (decide (s1.Full > 1048576)), undef, undef, undef, undef, undef, undef, undef, undef, undef, undef, undef, undef, undef, undef, undef, undef, undef, undef, undef], []⟩) (by kernel_rfl) ?_
                    have hq_ := ite_some h; clear h; rcases hq_ with ⟨c84, h⟩ | ⟨c84, h⟩
                    · have c84 : s1.Full > 1048576 := c84
                      refine seqRwI 65 (x := (decide (s1.Full > 1048576))) (v := true) (by kernel_rfl) (decide_eq_true c84) ?_
                      refine seqRwI 66 (x := (decide (s1.Full > 1048576))) (v := true) (by kernel_rfl) (decide_eq_true c84) ?_
                      refine seqRwI 67 (x := (decide (s1.Full > 1048576))) (v := true) (by kernel_rfl) (decide_eq_true c84) ?_
                      refine seqS20 (a' := ⟨#[.agg #[.int .i64 s1.W, .int .i64 s1.H, .slice A2 s1.Bias.length c3, .slice A5 s1.Dark.length c6, .slice A8 s1.Flat.length c9, .int .i64 s1.Full, .int .i64 s1.Gain, .int .i64 s1.Noise], .pointer (some ⟨b13, 0, none⟩), .int .i64 0, .int .i64 (w64 (s1.W * s1.H)), .pointer (some ⟨b13, 0, none⟩), .int .i64 s1.W, .pointer (some ⟨b13, 1, none⟩), .int .i64 s1.H, .int .i64 (w64 (s1.W * s1.H)), .bool false, .pointer (some ⟨b13, 0, none⟩), .int .i64 s1.W, .pointer (some ⟨b13, 1, none⟩), .int .i64 s1.H, .int .i64 (mn s1.W s1.H), .bool false, .bool false, .pointer (some ⟨b13, 0, none⟩), .int .i64 s1.W, .pointer (some ⟨b13, 1, none⟩), .int .i64 s1.H, .int .i64 (mx s1.W s1.H), .bool false, .bool false, .bool false, .pointer (some ⟨b13, 2, none⟩), .slice A2 s1.Bias.length c3, .int .i64 (s1.Bias.length : Int), .int .i64 (w64 (s1.W * s1.H)), .bool false, .bool false, .pointer (some ⟨b13, 3, none⟩), .slice A5 s1.Dark.length c6, .int .i64 (s1.Dark.length : Int), .int .i64 (w64 (s1.W * s1.H)), .bool false, .bool false, .bool false, .pointer (some ⟨b13, 4, none⟩), .slice A8 s1.Flat.length c9, .int .i64 (s1.Flat.length : Int), .int .i64 (w64 (s1.W * s1.H)), .bool false, .bool false, .bool false, .pointer (some ⟨b13, 2, none⟩), .slice A2 s1.Bias.length c3, .bool false, .bool false, .pointer (some ⟨b13, 3, none⟩), .slice A5 s1.Dark.length c6, .bool false, .bool false, .bool false, .pointer (some ⟨b13, 4, none⟩), .slice A8 s1.Flat.length c9, .bool false, .bool false, .bool true, .pointer (some ⟨b13, 5, none⟩), .int .i64 s1.Full, .bool false, .bool false, .pointer (some ⟨b13, 5, none⟩), .int .i64 s1.Full, .bool true, .bool true, .bool true, undef, undef, undef, .bool true, .bool true, undef, undef, undef, .bool true, .bool true, undef, undef, undef, .bool true, .bool true, undef, undef, undef, .bool true], []⟩) (by kernel_rfl) ?_
                      refine wpList_nil ?_
                      refine hK80 _ _ ?_
                      refine condT (by kernel_rfl) ?_
                      refine wp_seq_k (fun K85 hK86 => ?_)
                      refine wp_region_lit ?_
                      refine seqS1 (a' := ⟨#[.agg #[.int .i64 s1.W, .int .i64 s1.H, .slice A2 s1.Bias.length c3, .slice A5 s1.Dark.length c6, .slice A8 s1.Flat.length c9, .int .i64 s1.Full, .int .i64 s1.Gain, .int .i64 s1.Noise], .pointer (some ⟨b13, 0, none⟩), .int .i64 4, .int .i64 (w64 (s1.W * s1.H)), .pointer (some ⟨b13, 0, none⟩), .int .i64 s1.W, .pointer (some ⟨b13, 1, none⟩), .int .i64 s1.H, .int .i64 (w64 (s1.W * s1.H)), .bool false, .pointer (some ⟨b13, 0, none⟩), .int .i64 s1.W, .pointer (some ⟨b13, 1, none⟩), .int .i64 s1.H, .int .i64 (mn s1.W s1.H), .bool false, .bool false, .pointer (some ⟨b13, 0, none⟩), .int .i64 s1.W, .pointer (some ⟨b13, 1, none⟩), .int .i64 s1.H, .int .i64 (mx s1.W s1.H), .bool false, .bool false, .bool false, .pointer (some ⟨b13, 2, none⟩), .slice A2 s1.Bias.length c3, .int .i64 (s1.Bias.length : Int), .int .i64 (w64 (s1.W * s1.H)), .bool false, .bool false, .pointer (some ⟨b13, 3, none⟩), .slice A5 s1.Dark.length c6, .int .i64 (s1.Dark.length : Int), .int .i64 (w64 (s1.W * s1.H)), .bool false, .bool false, .bool false, .pointer (some ⟨b13, 4, none⟩), .slice A8 s1.Flat.length c9, .int .i64 (s1.Flat.length : Int), .int .i64 (w64 (s1.W * s1.H)), .bool false, .bool false, .bool false, .pointer (some ⟨b13, 2, none⟩), .slice A2 s1.Bias.length c3, .bool false, .bool false, .pointer (some ⟨b13, 3, none⟩), .slice A5 s1.Dark.length c6, .bool false, .bool false, .bool false, .pointer (some ⟨b13, 4, none⟩), .slice A8 s1.Flat.length c9, .bool false, .bool false, .bool true, .pointer (some ⟨b13, 5, none⟩), .int .i64 s1.Full, .bool false, .bool false, .pointer (some ⟨b13, 5, none⟩), .int .i64 s1.Full, .bool true, .bool true, .bool true, undef, undef, undef, .bool true, .bool true, undef, undef, undef, .bool true, .bool true, undef, undef, undef, .bool true, .bool true, undef, undef, undef, .bool true], []⟩) (by kernel_rfl) ?_
                      refine wpList_nil ?_
                      refine hK86 _ _ ?_
                      refine wp_ret ?_
                      refine hr24 _ _ ?_
                      refine hret _ _ ?_
                      refine ends_still (v := Value.int .i64 4) (by kernel_rfl) (by kernel_rfl) ?_
                      have HS111 := HS74.drop
                      injection h with h
                      subst h
                      exact ⟨f71, rfl, (L54.trans (L63.trans L72)), HS111⟩
                    · have c84 : ¬ (s1.Full > 1048576) := c84
                      refine seqRwI 65 (x := (decide (s1.Full > 1048576))) (v := false) (by kernel_rfl) (decide_eq_false c84) ?_
                      refine seqRwI 66 (x := (decide (s1.Full > 1048576))) (v := false) (by kernel_rfl) (decide_eq_false c84) ?_
                      refine seqRwI 67 (x := (decide (s1.Full > 1048576))) (v := false) (by kernel_rfl) (decide_eq_false c84) ?_
                      refine seqL1 (by kernel_rfl) ?_
                      refine seqG (by kernel_rfl) (does_run (run_load rfl Try.underlying42 rfl (by kernel_rfl : _ = Value.pointer (some ⟨b13, 6, none⟩)) (HS74.cell 6)) ?_)
                      refine seqS3 (a' := ⟨#[.agg #[.int .i64 s1.W, .int .i64 s1.H, .slice A2 s1.Bias.length c3, .slice A5 s1.Dark.length c6, .slice A8 s1.Flat.length c9, .int .i64 s1.Full, .int .i64 s1.Gain, .int .i64 s1.Noise], .pointer (some ⟨b13, 0, none⟩), .int .i64 0, .int .i64 (w64 (s1.W * s1.H)), .pointer (some ⟨b13, 0, none⟩), .int .i64 s1.W, .pointer (some ⟨b13, 1, none⟩), .int .i64 s1.H, .int .i64 (w64 (s1.W * s1.H)), .bool false, .pointer (some ⟨b13, 0, none⟩), .int .i64 s1.W, .pointer (some ⟨b13, 1, none⟩), .int .i64 s1.H, .int .i64 (mn s1.W s1.H), .bool false, .bool false, .pointer (some ⟨b13, 0, none⟩), .int .i64 s1.W, .pointer (some ⟨b13, 1, none⟩), .int .i64 s1.H, .int .i64 (mx s1.W s1.H), .bool false, .bool false, .bool false, .pointer (some ⟨b13, 2, none⟩), .slice A2 s1.Bias.length c3, .int .i64 (s1.Bias.length : Int), .int .i64 (w64 (s1.W * s1.H)), .bool false, .bool false, .pointer (some ⟨b13, 3, none⟩), .slice A5 s1.Dark.length c6, .int .i64 (s1.Dark.length : Int), .int .i64 (w64 (s1.W * s1.H)), .bool false, .bool false, .bool false, .pointer (some ⟨b13, 4, none⟩), .slice A8 s1.Flat.length c9, .int .i64 (s1.Flat.length : Int), .int .i64 (w64 (s1.W * s1.H)), .bool false, .bool false, .bool false, .pointer (some ⟨b13, 2, none⟩), .slice A2 s1.Bias.length c3, .bool false, .bool false, .pointer (some ⟨b13, 3, none⟩), .slice A5 s1.Dark.length c6, .bool false, .bool false, .bool false, .pointer (some ⟨b13, 4, none⟩), .slice A8 s1.Flat.length c9, .bool false, .bool false, undef, .pointer (some ⟨b13, 5, none⟩), .int .i64 s1.Full, .bool false, .bool false, .pointer (some ⟨b13, 5, none⟩), .int .i64 s1.Full, .bool false, .bool false, .bool false, .pointer (some ⟨b13, 6, none⟩), .int .i64 s1.Gain, .bool (decide (s1.Gain < 1)), .bool (decide (s1.Gain < 1)), .bool (decide (s1.Gain < 1)), undef, undef, undef, undef, undef, undef, undef, undef, undef, undef, undef, undef, undef, undef], []⟩) (by kernel_rfl) ?_
                      have hq_ := ite_some h; clear h; rcases hq_ with ⟨c87, h⟩ | ⟨c87, h⟩
                      · have c87 : s1.Gain < 1 := c87
                        refine seqRwI 70 (x := (decide (s1.Gain < 1))) (v := true) (by kernel_rfl) (decide_eq_true c87) ?_
                        refine seqRwI 71 (x := (decide (s1.Gain < 1))) (v := true) (by kernel_rfl) (decide_eq_true c87) ?_
                        refine seqRwI 72 (x := (decide (s1.Gain < 1))) (v := true) (by kernel_rfl) (decide_eq_true c87) ?_
                        refine seqS15 (a' := ⟨#[.agg #[.int .i64 s1.W, .int .i64 s1.H, .slice A2 s1.Bias.length c3, .slice A5 s1.Dark.length c6, .slice A8 s1.Flat.length c9, .int .i64 s1.Full, .int .i64 s1.Gain, .int .i64 s1.Noise], .pointer (some ⟨b13, 0, none⟩), .int .i64 0, .int .i64 (w64 (s1.W * s1.H)), .pointer (some ⟨b13, 0, none⟩), .int .i64 s1.W, .pointer (some ⟨b13, 1, none⟩), .int .i64 s1.H, .int .i64 (w64 (s1.W * s1.H)), .bool false, .pointer (some ⟨b13, 0, none⟩), .int .i64 s1.W, .pointer (some ⟨b13, 1, none⟩), .int .i64 s1.H, .int .i64 (mn s1.W s1.H), .bool false, .bool false, .pointer (some ⟨b13, 0, none⟩), .int .i64 s1.W, .pointer (some ⟨b13, 1, none⟩), .int .i64 s1.H, .int .i64 (mx s1.W s1.H), .bool false, .bool false, .bool false, .pointer (some ⟨b13, 2, none⟩), .slice A2 s1.Bias.length c3, .int .i64 (s1.Bias.length : Int), .int .i64 (w64 (s1.W * s1.H)), .bool false, .bool false, .pointer (some ⟨b13, 3, none⟩), .slice A5 s1.Dark.length c6, .int .i64 (s1.Dark.length : Int), .int .i64 (w64 (s1.W * s1.H)), .bool false, .bool false, .bool false, .pointer (some ⟨b13, 4, none⟩), .slice A8 s1.Flat.length c9, .int .i64 (s1.Flat.length : Int), .int .i64 (w64 (s1.W * s1.H)), .bool false, .bool false, .bool false, .pointer (some ⟨b13, 2, none⟩), .slice A2 s1.Bias.length c3, .bool false, .bool false, .pointer (some ⟨b13, 3, none⟩), .slice A5 s1.Dark.length c6, .bool false, .bool false, .bool false, .pointer (some ⟨b13, 4, none⟩), .slice A8 s1.Flat.length c9, .bool false, .bool false, .bool true, .pointer (some ⟨b13, 5, none⟩), .int .i64 s1.Full, .bool false, .bool false, .pointer (some ⟨b13, 5, none⟩), .int .i64 s1.Full, .bool false, .bool false, .bool false, .pointer (some ⟨b13, 6, none⟩), .int .i64 s1.Gain, .bool true, .bool true, .bool true, undef, undef, undef, .bool true, .bool true, undef, undef, undef, .bool true, .bool true, undef, undef, undef, .bool true], []⟩) (by kernel_rfl) ?_
                        refine wpList_nil ?_
                        refine hK80 _ _ ?_
                        refine condT (by kernel_rfl) ?_
                        refine wp_seq_k (fun K88 hK89 => ?_)
                        refine wp_region_lit ?_
                        refine seqS1 (a' := ⟨#[.agg #[.int .i64 s1.W, .int .i64 s1.H, .slice A2 s1.Bias.length c3, .slice A5 s1.Dark.length c6, .slice A8 s1.Flat.length c9, .int .i64 s1.Full, .int .i64 s1.Gain, .int .i64 s1.Noise], .pointer (some ⟨b13, 0, none⟩), .int .i64 4, .int .i64 (w64 (s1.W * s1.H)), .pointer (some ⟨b13, 0, none⟩), .int .i64 s1.W, .pointer (some ⟨b13, 1, none⟩), .int .i64 s1.H, .int .i64 (w64 (s1.W * s1.H)), .bool false, .pointer (some ⟨b13, 0, none⟩), .int .i64 s1.W, .pointer (some ⟨b13, 1, none⟩), .int .i64 s1.H, .int .i64 (mn s1.W s1.H), .bool false, .bool false, .pointer (some ⟨b13, 0, none⟩), .int .i64 s1.W, .pointer (some ⟨b13, 1, none⟩), .int .i64 s1.H, .int .i64 (mx s1.W s1.H), .bool false, .bool false, .bool false, .pointer (some ⟨b13, 2, none⟩), .slice A2 s1.Bias.length c3, .int .i64 (s1.Bias.length : Int), .int .i64 (w64 (s1.W * s1.H)), .bool false, .bool false, .pointer (some ⟨b13, 3, none⟩), .slice A5 s1.Dark.length c6, .int .i64 (s1.Dark.length : Int), .int .i64 (w64 (s1.W * s1.H)), .bool false, .bool false, .bool false, .pointer (some ⟨b13, 4, none⟩), .slice A8 s1.Flat.length c9, .int .i64 (s1.Flat.length : Int), .int .i64 (w64 (s1.W * s1.H)), .bool false, .bool false, .bool false, .pointer (some ⟨b13, 2, none⟩), .slice A2 s1.Bias.length c3, .bool false, .bool false, .pointer (some ⟨b13, 3, none⟩), .slice A5 s1.Dark.length c6, .bool false, .bool false, .bool false, .pointer (some ⟨b13, 4, none⟩), .slice A8 s1.Flat.length c9, .bool false, .bool false, .bool true, .pointer (some ⟨b13, 5, none⟩), .int .i64 s1.Full, .bool false, .bool false, .pointer (some ⟨b13, 5, none⟩), .int .i64 s1.Full, .bool false, .bool false, .bool false, .pointer (some ⟨b13, 6, none⟩), .int .i64 s1.Gain, .bool true, .bool true, .bool true, undef, undef, undef, .bool true, .bool true, undef, undef, undef, .bool true, .bool true, undef, undef, undef, .bool true], []⟩) (by kernel_rfl) ?_
                        refine wpList_nil ?_
                        refine hK89 _ _ ?_
                        refine wp_ret ?_
                        refine hr24 _ _ ?_
                        refine hret _ _ ?_
                        refine ends_still (v := Value.int .i64 4) (by kernel_rfl) (by kernel_rfl) ?_
                        have HS112 := HS74.drop
                        injection h with h
                        subst h
                        exact ⟨f71, rfl, (L54.trans (L63.trans L72)), HS112⟩
                      · have c87 : ¬ (s1.Gain < 1) := c87
                        refine seqRwI 70 (x := (decide (s1.Gain < 1))) (v := false) (by kernel_rfl) (decide_eq_false c87) ?_
                        refine seqRwI 71 (x := (decide (s1.Gain < 1))) (v := false) (by kernel_rfl) (decide_eq_false c87) ?_
                        refine seqRwI 72 (x := (decide (s1.Gain < 1))) (v := false) (by kernel_rfl) (decide_eq_false c87) ?_
                        refine seqL1 (by kernel_rfl) ?_
                        refine seqG (by kernel_rfl) (does_run (run_load rfl Try.underlying42 rfl (by kernel_rfl : _ = Value.pointer (some ⟨b13, 6, none⟩)) (HS74.cell 6)) ?_)
                        refine seqS3 (a' := ⟨#[.agg #[.int .i64 s1.W, .int .i64 s1.H, .slice A2 s1.Bias.length c3, .slice A5 s1.Dark.length c6, .slice A8 s1.Flat.length c9, .int .i64 s1.Full, .int .i64 s1.Gain, .int .i64 s1.Noise], .pointer (some ⟨b13, 0, none⟩), .int .i64 0, .int .i64 (w64 (s1.W * s1.H)), .pointer (some ⟨b13, 0, none⟩), .int .i64 s1.W, .pointer (some ⟨b13, 1, none⟩), .int .i64 s1.H, .int .i64 (w64 (s1.W * s1.H)), .bool false, .pointer (some ⟨b13, 0, none⟩), .int .i64 s1.W, .pointer (some ⟨b13, 1, none⟩), .int .i64 s1.H, .int .i64 (mn s1.W s1.H), .bool false, .bool false, .pointer (some ⟨b13, 0, none⟩), .int .i64 s1.W, .pointer (some ⟨b13, 1, none⟩), .int .i64 s1.H, .int .i64 (mx s1.W s1.H), .bool false, .bool false, .bool false, .pointer (some ⟨b13, 2, none⟩), .slice A2 s1.Bias.length c3, .int .i64 (s1.Bias.length : Int), .int .i64 (w64 (s1.W * s1.H)), .bool false, .bool false, .pointer (some ⟨b13, 3, none⟩), .slice A5 s1.Dark.length c6, .int .i64 (s1.Dark.length : Int), .int .i64 (w64 (s1.W * s1.H)), .bool false, .bool false, .bool false, .pointer (some ⟨b13, 4, none⟩), .slice A8 s1.Flat.length c9, .int .i64 (s1.Flat.length : Int), .int .i64 (w64 (s1.W * s1.H)), .bool false, .bool false, .bool false, .pointer (some ⟨b13, 2, none⟩), .slice A2 s1.Bias.length c3, .bool false, .bool false, .pointer (some ⟨b13, 3, none⟩), .slice A5 s1.Dark.length c6, .bool false, .bool false, .bool false, .pointer (some ⟨b13, 4, none⟩), .slice A8 s1.Flat.length c9, .bool false, .bool false, undef, .pointer (some ⟨b13, 5, none⟩), .int .i64 s1.Full, .bool false, .bool false, .pointer (some ⟨b13, 5, none⟩), .int .i64 s1.Full, .bool false, .bool false, .bool false, .pointer (some ⟨b13, 6, none⟩), .int .i64 s1.Gain, .bool false, .bool false, .bool false, .pointer (some ⟨b13, 6, none⟩), .int .i64 s1.Gain, .bool (decide (s1.Gain > 64)), .bool (decide (s1.Gain > 64)), .bool (decide (s1.Gain > 64)), undef, undef, undef, undef, undef, undef, undef, undef, undef], []⟩) (by kernel_rfl) ?_
                        have hq_ := ite_some h; clear h; rcases hq_ with ⟨c90, h⟩ | ⟨c90, h⟩
                        · have c90 : s1.Gain > 64 := c90
                          refine seqRwI 75 (x := (decide (s1.Gain > 64))) (v := true) (by kernel_rfl) (decide_eq_true c90) ?_
                          refine seqRwI 76 (x := (decide (s1.Gain > 64))) (v := true) (by kernel_rfl) (decide_eq_true c90) ?_
                          refine seqRwI 77 (x := (decide (s1.Gain > 64))) (v := true) (by kernel_rfl) (decide_eq_true c90) ?_
                          refine seqS10 (a' := ⟨#[.agg #[.int .i64 s1.W, .int .i64 s1.H, .slice A2 s1.Bias.length c3, .slice A5 s1.Dark.length c6, .slice A8 s1.Flat.length c9, .int .i64 s1.Full, .int .i64 s1.Gain, .int .i64 s1.Noise], .pointer (some ⟨b13, 0, none⟩), .int .i64 0, .int .i64 (w64 (s1.W * s1.H)), .pointer (some ⟨b13, 0, none⟩), .int .i64 s1.W, .pointer (some ⟨b13, 1, none⟩), .int .i64 s1.H, .int .i64 (w64 (s1.W * s1.H)), .bool false, .pointer (some ⟨b13, 0, none⟩), .int .i64 s1.W, .pointer (some ⟨b13, 1, none⟩), .int .i64 s1.H, .int .i64 (mn s1.W s1.H), .bool false, .bool false, .pointer (some ⟨b13, 0, none⟩), .int .i64 s1.W, .pointer (some ⟨b13, 1, none⟩), .int .i64 s1.H, .int .i64 (mx s1.W s1.H), .bool false, .bool false, .bool false, .pointer (some ⟨b13, 2, none⟩), .slice A2 s1.Bias.length c3, .int .i64 (s1.Bias.length : Int), .int .i64 (w64 (s1.W * s1.H)), .bool false, .bool false, .pointer (some ⟨b13, 3, none⟩), .slice A5 s1.Dark.length c6, .int .i64 (s1.Dark.length : Int), .int .i64 (w64 (s1.W * s1.H)), .bool false, .bool false, .bool false, .pointer (some ⟨b13, 4, none⟩), .slice A8 s1.Flat.length c9, .int .i64 (s1.Flat.length : Int), .int .i64 (w64 (s1.W * s1.H)), .bool false, .bool false, .bool false, .pointer (some ⟨b13, 2, none⟩), .slice A2 s1.Bias.length c3, .bool false, .bool false, .pointer (some ⟨b13, 3, none⟩), .slice A5 s1.Dark.length c6, .bool false, .bool false, .bool false, .pointer (some ⟨b13, 4, none⟩), .slice A8 s1.Flat.length c9, .bool false, .bool false, .bool true, .pointer (some ⟨b13, 5, none⟩), .int .i64 s1.Full, .bool false, .bool false, .pointer (some ⟨b13, 5, none⟩), .int .i64 s1.Full, .bool false, .bool false, .bool false, .pointer (some ⟨b13, 6, none⟩), .int .i64 s1.Gain, .bool false, .bool false, .bool false, .pointer (some ⟨b13, 6, none⟩), .int .i64 s1.Gain, .bool true, .bool true, .bool true, undef, undef, undef, .bool true, .bool true, undef, undef, undef, .bool true], []⟩) (by kernel_rfl) ?_
                          refine wpList_nil ?_
                          refine hK80 _ _ ?_
                          refine condT (by kernel_rfl) ?_
                          refine wp_seq_k (fun K91 hK92 => ?_)
                          refine wp_region_lit ?_
                          refine seqS1 (a' := ⟨#[.agg #[.int .i64 s1.W, .int .i64 s1.H, .slice A2 s1.Bias.length c3, .slice A5 s1.Dark.length c6, .slice A8 s1.Flat.length c9, .int .i64 s1.Full, .int .i64 s1.Gain, .int .i64 s1.Noise], .pointer (some ⟨b13, 0, none⟩), .int .i64 4, .int .i64 (w64 (s1.W * s1.H)), .pointer (some ⟨b13, 0, none⟩), .int .i64 s1.W, .pointer (some ⟨b13, 1, none⟩), .int .i64 s1.H, .int .i64 (w64 (s1.W * s1.H)), .bool false, .pointer (some ⟨b13, 0, none⟩), .int .i64 s1.W, .pointer (some ⟨b13, 1, none⟩), .int .i64 s1.H, .int .i64 (mn s1.W s1.H), .bool false, .bool false, .pointer (some ⟨b13, 0, none⟩), .int .i64 s1.W, .pointer (some ⟨b13, 1, none⟩), .int .i64 s1.H, .int .i64 (mx s1.W s1.H), .bool false, .bool false, .bool false, .pointer (some ⟨b13, 2, none⟩), .slice A2 s1.Bias.length c3, .int .i64 (s1.Bias.length : Int), .int .i64 (w64 (s1.W * s1.H)), .bool false, .bool false, .pointer (some ⟨b13, 3, none⟩), .slice A5 s1.Dark.length c6, .int .i64 (s1.Dark.length : Int), .int .i64 (w64 (s1.W * s1.H)), .bool false, .bool false, .bool false, .pointer (some ⟨b13, 4, none⟩), .slice A8 s1.Flat.length c9, .int .i64 (s1.Flat.length : Int), .int .i64 (w64 (s1.W * s1.H)), .bool false, .bool false, .bool false, .pointer (some ⟨b13, 2, none⟩), .slice A2 s1.Bias.length c3, .bool false, .bool false, .pointer (some ⟨b13, 3, none⟩), .slice A5 s1.Dark.length c6, .bool false, .bool false, .bool false, .pointer (some ⟨b13, 4, none⟩), .slice A8 s1.Flat.length c9, .bool false, .bool false, .bool true, .pointer (some ⟨b13, 5, none⟩), .int .i64 s1.Full, .bool false, .bool false, .pointer (some ⟨b13, 5, none⟩), .int .i64 s1.Full, .bool false, .bool false, .bool false, .pointer (some ⟨b13, 6, none⟩), .int .i64 s1.Gain, .bool false, .bool false, .bool false, .pointer (some ⟨b13, 6, none⟩), .int .i64 s1.Gain, .bool true, .bool true, .bool true, undef, undef, undef, .bool true, .bool true, undef, undef, undef, .bool true], []⟩) (by kernel_rfl) ?_
                          refine wpList_nil ?_
                          refine hK92 _ _ ?_
                          refine wp_ret ?_
                          refine hr24 _ _ ?_
                          refine hret _ _ ?_
                          refine ends_still (v := Value.int .i64 4) (by kernel_rfl) (by kernel_rfl) ?_
                          have HS113 := HS74.drop
                          injection h with h
                          subst h
                          exact ⟨f71, rfl, (L54.trans (L63.trans L72)), HS113⟩
                        · have c90 : ¬ (s1.Gain > 64) := c90
                          refine seqRwI 75 (x := (decide (s1.Gain > 64))) (v := false) (by kernel_rfl) (decide_eq_false c90) ?_
                          refine seqRwI 76 (x := (decide (s1.Gain > 64))) (v := false) (by kernel_rfl) (decide_eq_false c90) ?_
                          refine seqRwI 77 (x := (decide (s1.Gain > 64))) (v := false) (by kernel_rfl) (decide_eq_false c90) ?_
                          refine seqL1 (by kernel_rfl) ?_
                          refine seqG (by kernel_rfl) (does_run (run_load rfl Try.underlying3 rfl (by kernel_rfl : _ = Value.pointer (some ⟨b13, 7, none⟩)) (HS74.cell 7)) ?_)
                          refine seqS3 (a' := ⟨#[.agg #[.int .i64 s1.W, .int .i64 s1.H, .slice A2 s1.Bias.length c3, .slice A5 s1.Dark.length c6, .slice A8 s1.Flat.length c9, .int .i64 s1.Full, .int .i64 s1.Gain, .int .i64 s1.Noise], .pointer (some ⟨b13, 0, none⟩), .int .i64 0, .int .i64 (w64 (s1.W * s1.H)), .pointer (some ⟨b13, 0, none⟩), .int .i64 s1.W, .pointer (some ⟨b13, 1, none⟩), .int .i64 s1.H, .int .i64 (w64 (s1.W * s1.H)), .bool false, .pointer (some ⟨b13, 0, none⟩), .int .i64 s1.W, .pointer (some ⟨b13, 1, none⟩), .int .i64 s1.H, .int .i64 (mn s1.W s1.H), .bool false, .bool false, .pointer (some ⟨b13, 0, none⟩), .int .i64 s1.W, .pointer (some ⟨b13, 1, none⟩), .int .i64 s1.H, .int .i64 (mx s1.W s1.H), .bool false, .bool false, .bool false, .pointer (some ⟨b13, 2, none⟩), .slice A2 s1.Bias.length c3, .int .i64 (s1.Bias.length : Int), .int .i64 (w64 (s1.W * s1.H)), .bool false, .bool false, .pointer (some ⟨b13, 3, none⟩), .slice A5 s1.Dark.length c6, .int .i64 (s1.Dark.length : Int), .int .i64 (w64 (s1.W * s1.H)), .bool false, .bool false, .bool false, .pointer (some ⟨b13, 4, none⟩), .slice A8 s1.Flat.length c9, .int .i64 (s1.Flat.length : Int), .int .i64 (w64 (s1.W * s1.H)), .bool false, .bool false, .bool false, .pointer (some ⟨b13, 2, none⟩), .slice A2 s1.Bias.length c3, .bool false, .bool false, .pointer (some ⟨b13, 3, none⟩), .slice A5 s1.Dark.length c6, .bool false, .bool false, .bool false, .pointer (some ⟨b13, 4, none⟩), .slice A8 s1.Flat.length c9, .bool false, .bool false, undef, .pointer (some ⟨b13, 5, none⟩), .int .i64 s1.Full, .bool false, .bool false, .pointer (some ⟨b13, 5, none⟩), .int .i64 s1.Full, .bool false, .bool false, .bool false, .pointer (some ⟨b13, 6, none⟩), .int .i64 s1.Gain, .bool false, .bool false, .bool false, .pointer (some ⟨b13, 6, none⟩), .int .i64 s1.Gain, .bool false, .bool false, .bool false, .pointer (some ⟨b13, 7, none⟩), .int .i64 s1.Noise, .bool (decide (s1.Noise < 0)), .bool (decide (s1.Noise < 0)), .bool (decide (s1.Noise < 0)), undef, undef, undef, undef], []⟩) (by kernel_rfl) ?_
                          have hq_ := ite_some h; clear h; rcases hq_ with ⟨c93, h⟩ | ⟨c93, h⟩
                          · have c93 : s1.Noise < 0 := c93
                            refine seqRwI 80 (x := (decide (s1.Noise < 0))) (v := true) (by kernel_rfl) (decide_eq_true c93) ?_
                            refine seqRwI 81 (x := (decide (s1.Noise < 0))) (v := true) (by kernel_rfl) (decide_eq_true c93) ?_
                            refine seqRwI 82 (x := (decide (s1.Noise < 0))) (v := true) (by kernel_rfl) (decide_eq_true c93) ?_
                            refine seqS5 (a' := ⟨#[.agg #[.int .i64 s1.W, .int .i64 s1.H, .slice A2 s1.Bias.length c3, .slice A5 s1.Dark.length c6, .slice A8 s1.Flat.length c9, .int .i64 s1.Full, .int .i64 s1.Gain, .int .i64 s1.Noise], .pointer (some ⟨b13, 0, none⟩), .int .i64 0, .int .i64 (w64 (s1.W * s1.H)), .pointer (some ⟨b13, 0, none⟩), .int .i64 s1.W, .pointer (some ⟨b13, 1, none⟩), .int .i64 s1.H, .int .i64 (w64 (s1.W * s1.H)), .bool false, .pointer (some ⟨b13, 0, none⟩), .int .i64 s1.W, .pointer (some ⟨b13, 1, none⟩), .int .i64 s1.H, .int .i64 (mn s1.W s1.H), .bool false, .bool false, .pointer (some ⟨b13, 0, none⟩), .int .i64 s1.W, .pointer (some ⟨b13, 1, none⟩), .int .i64 s1.H, .int .i64 (mx s1.W s1.H), .bool false, .bool false, .bool false, .pointer (some ⟨b13, 2, none⟩), .slice A2 s1.Bias.length c3, .int .i64 (s1.Bias.length : Int), .int .i64 (w64 (s1.W * s1.H)), .bool false, .bool false, .pointer (some ⟨b13, 3, none⟩), .slice A5 s1.Dark.length c6, .int .i64 (s1.Dark.length : Int), .int .i64 (w64 (s1.W * s1.H)), .bool false, .bool false, .bool false, .pointer (some ⟨b13, 4, none⟩), .slice A8 s1.Flat.length c9, .int .i64 (s1.Flat.length : Int), .int .i64 (w64 (s1.W * s1.H)), .bool false, .bool false, .bool false, .pointer (some ⟨b13, 2, none⟩), .slice A2 s1.Bias.length c3, .bool false, .bool false, .pointer (some ⟨b13, 3, none⟩), .slice A5 s1.Dark.length c6, .bool false, .bool false, .bool false, .pointer (some ⟨b13, 4, none⟩), .slice A8 s1.Flat.length c9, .bool false, .bool false, .bool true, .pointer (some ⟨b13, 5, none⟩), .int .i64 s1.Full, .bool false, .bool false, .pointer (some ⟨b13, 5, none⟩), .int .i64 s1.Full, .bool false, .bool false, .bool false, .pointer (some ⟨b13, 6, none⟩), .int .i64 s1.Gain, .bool false, .bool false, .bool false, .pointer (some ⟨b13, 6, none⟩), .int .i64 s1.Gain, .bool false, .bool false, .bool false, .pointer (some ⟨b13, 7, none⟩), .int .i64 s1.Noise, .bool true, .bool true, .bool true, undef, undef, undef, .bool true], []⟩) (by kernel_rfl) ?_
                            refine wpList_nil ?_
                            refine hK80 _ _ ?_
                            refine condT (by kernel_rfl) ?_
                            refine wp_seq_k (fun K94 hK95 => ?_)
                            refine wp_region_lit ?_
                            refine seqS1 (a' := ⟨#[.agg #[.int .i64 s1.W, .int .i64 s1.H, .slice A2 s1.Bias.length c3, .slice A5 s1.Dark.length c6, .slice A8 s1.Flat.length c9, .int .i64 s1.Full, .int .i64 s1.Gain, .int .i64 s1.Noise], .pointer (some ⟨b13, 0, none⟩), .int .i64 4, .int .i64 (w64 (s1.W * s1.H)), .pointer (some ⟨b13, 0, none⟩), .int .i64 s1.W, .pointer (some ⟨b13, 1, none⟩), .int .i64 s1.H, .int .i64 (w64 (s1.W * s1.H)), .bool false, .pointer (some ⟨b13, 0, none⟩), .int .i64 s1.W, .pointer (some ⟨b13, 1, none⟩), .int .i64 s1.H, .int .i64 (mn s1.W s1.H), .bool false, .bool false, .pointer (some ⟨b13, 0, none⟩), .int .i64 s1.W, .pointer (some ⟨b13, 1, none⟩), .int .i64 s1.H, .int .i64 (mx s1.W s1.H), .bool false, .bool false, .bool false, .pointer (some ⟨b13, 2, none⟩), .slice A2 s1.Bias.length c3, .int .i64 (s1.Bias.length : Int), .int .i64 (w64 (s1.W * s1.H)), .bool false, .bool false, .pointer (some ⟨b13, 3, none⟩), .slice A5 s1.Dark.length c6, .int .i64 (s1.Dark.length : Int), .int .i64 (w64 (s1.W * s1.H)), .bool false, .bool false, .bool false, .pointer (some ⟨b13, 4, none⟩), .slice A8 s1.Flat.length c9, .int .i64 (s1.Flat.length : Int), .int .i64 (w64 (s1.W * s1.H)), .bool false, .bool false, .bool false, .pointer (some ⟨b13, 2, none⟩), .slice A2 s1.Bias.length c3, .bool false, .bool false, .pointer (some ⟨b13, 3, none⟩), .slice A5 s1.Dark.length c6, .bool false, .bool false, .bool false, .pointer (some ⟨b13, 4, none⟩), .slice A8 s1.Flat.length c9, .bool false, .bool false, .bool true, .pointer (some ⟨b13, 5, none⟩), .int .i64 s1.Full, .bool false, .bool false, .pointer (some ⟨b13, 5, none⟩), .int .i64 s1.Full, .bool false, .bool false, .bool false, .pointer (some ⟨b13, 6, none⟩), .int .i64 s1.Gain, .bool false, .bool false, .bool false, .pointer (some ⟨b13, 6, none⟩), .int .i64 s1.Gain, .bool false, .bool false, .bool false, .pointer (some ⟨b13, 7, none⟩), .int .i64 s1.Noise, .bool true, .bool true, .bool true, undef, undef, undef, .bool true], []⟩) (by kernel_rfl) ?_
                            refine wpList_nil ?_
                            refine hK95 _ _ ?_
                            refine wp_ret ?_
                            refine hr24 _ _ ?_
                            refine hret _ _ ?_
                            refine ends_still (v := Value.int .i64 4) (by kernel_rfl) (by kernel_rfl) ?_
                            have HS114 := HS74.drop
                            injection h with h
                            subst h
                            exact ⟨f71, rfl, (L54.trans (L63.trans L72)), HS114⟩
                          · have c93 : ¬ (s1.Noise < 0) := c93
                            refine seqRwI 80 (x := (decide (s1.Noise < 0))) (v := false) (by kernel_rfl) (decide_eq_false c93) ?_
                            refine seqRwI 81 (x := (decide (s1.Noise < 0))) (v := false) (by kernel_rfl) (decide_eq_false c93) ?_
                            refine seqRwI 82 (x := (decide (s1.Noise < 0))) (v := false) (by kernel_rfl) (decide_eq_false c93) ?_
                            refine seqL1 (by kernel_rfl) ?_
                            refine seqG (by kernel_rfl) (does_run (run_load rfl Try.underlying3 rfl (by kernel_rfl : _ = Value.pointer (some ⟨b13, 7, none⟩)) (HS74.cell 7)) ?_)
                            refine seqS3 (a' := ⟨#[.agg #[.int .i64 s1.W, .int .i64 s1.H, .slice A2 s1.Bias.length c3, .slice A5 s1.Dark.length c6, .slice A8 s1.Flat.length c9, .int .i64 s1.Full, .int .i64 s1.Gain, .int .i64 s1.Noise], .pointer (some ⟨b13, 0, none⟩), .int .i64 0, .int .i64 (w64 (s1.W * s1.H)), .pointer (some ⟨b13, 0, none⟩), .int .i64 s1.W, .pointer (some ⟨b13, 1, none⟩), .int .i64 s1.H, .int .i64 (w64 (s1.W * s1.H)), .bool false, .pointer (some ⟨b13, 0, none⟩), .int .i64 s1.W, .pointer (some ⟨b13, 1, none⟩), .int .i64 s1.H, .int .i64 (mn s1.W s1.H), .bool false, .bool false, .pointer (some ⟨b13, 0, none⟩), .int .i64 s1.W, .pointer (some ⟨b13, 1, none⟩), .int .i64 s1.H, .int .i64 (mx s1.W s1.H), .bool false, .bool false, .bool false, .pointer (some ⟨b13, 2, none⟩), .slice A2 s1.Bias.length c3, .int .i64 (s1.Bias.length : Int), .int .i64 (w64 (s1.W * s1.H)), .bool false, .bool false, .pointer (some ⟨b13, 3, none⟩), .slice A5 s1.Dark.length c6, .int .i64 (s1.Dark.length : Int), .int .i64 (w64 (s1.W * s1.H)), .bool false, .bool false, .bool false, .pointer (some ⟨b13, 4, none⟩), .slice A8 s1.Flat.length c9, .int .i64 (s1.Flat.length : Int), .int .i64 (w64 (s1.W * s1.H)), .bool false, .bool false, .bool false, .pointer (some ⟨b13, 2, none⟩), .slice A2 s1.Bias.length c3, .bool false, .bool false, .pointer (some ⟨b13, 3, none⟩), .slice A5 s1.Dark.length c6, .bool false, .bool false, .bool false, .pointer (some ⟨b13, 4, none⟩), .slice A8 s1.Flat.length c9, .bool false, .bool false, .bool (decide (s1.Noise > 64)), .pointer (some ⟨b13, 5, none⟩), .int .i64 s1.Full, .bool false, .bool false, .pointer (some ⟨b13, 5, none⟩), .int .i64 s1.Full, .bool false, .bool false, .bool false, .pointer (some ⟨b13, 6, none⟩), .int .i64 s1.Gain, .bool false, .bool false, .bool false, .pointer (some ⟨b13, 6, none⟩), .int .i64 s1.Gain, .bool false, .bool false, .bool false, .pointer (some ⟨b13, 7, none⟩), .int .i64 s1.Noise, .bool false, .bool false, .bool false, .pointer (some ⟨b13, 7, none⟩), .int .i64 s1.Noise, .bool (decide (s1.Noise > 64)), .bool (decide (s1.Noise > 64))], []⟩) (by kernel_rfl) ?_
                            refine wpList_nil ?_
                            refine hK80 _ _ ?_
                            have hq_ := ite_some h; clear h; rcases hq_ with ⟨c97, h⟩ | ⟨c97, h⟩
                            · have c97 : s1.Noise > 64 := c97
                              refine wpRwI 58 (x := (decide (s1.Noise > 64))) (v := true) (by kernel_rfl) (decide_eq_true c97) ?_
                              refine wpRwI 85 (x := (decide (s1.Noise > 64))) (v := true) (by kernel_rfl) (decide_eq_true c97) ?_
                              refine wpRwI 86 (x := (decide (s1.Noise > 64))) (v := true) (by kernel_rfl) (decide_eq_true c97) ?_
                              refine condT (by kernel_rfl) ?_
                              refine wp_seq_k (fun K98 hK99 => ?_)
                              refine wp_region_lit ?_
                              refine seqS1 (a' := ⟨#[.agg #[.int .i64 s1.W, .int .i64 s1.H, .slice A2 s1.Bias.length c3, .slice A5 s1.Dark.length c6, .slice A8 s1.Flat.length c9, .int .i64 s1.Full, .int .i64 s1.Gain, .int .i64 s1.Noise], .pointer (some ⟨b13, 0, none⟩), .int .i64 4, .int .i64 (w64 (s1.W * s1.H)), .pointer (some ⟨b13, 0, none⟩), .int .i64 s1.W, .pointer (some ⟨b13, 1, none⟩), .int .i64 s1.H, .int .i64 (w64 (s1.W * s1.H)), .bool false, .pointer (some ⟨b13, 0, none⟩), .int .i64 s1.W, .pointer (some ⟨b13, 1, none⟩), .int .i64 s1.H, .int .i64 (mn s1.W s1.H), .bool false, .bool false, .pointer (some ⟨b13, 0, none⟩), .int .i64 s1.W, .pointer (some ⟨b13, 1, none⟩), .int .i64 s1.H, .int .i64 (mx s1.W s1.H), .bool false, .bool false, .bool false, .pointer (some ⟨b13, 2, none⟩), .slice A2 s1.Bias.length c3, .int .i64 (s1.Bias.length : Int), .int .i64 (w64 (s1.W * s1.H)), .bool false, .bool false, .pointer (some ⟨b13, 3, none⟩), .slice A5 s1.Dark.length c6, .int .i64 (s1.Dark.length : Int), .int .i64 (w64 (s1.W * s1.H)), .bool false, .bool false, .bool false, .pointer (some ⟨b13, 4, none⟩), .slice A8 s1.Flat.length c9, .int .i64 (s1.Flat.length : Int), .int .i64 (w64 (s1.W * s1.H)), .bool false, .bool false, .bool false, .pointer (some ⟨b13, 2, none⟩), .slice A2 s1.Bias.length c3, .bool false, .bool false, .pointer (some ⟨b13, 3, none⟩), .slice A5 s1.Dark.length c6, .bool false, .bool false, .bool false, .pointer (some ⟨b13, 4, none⟩), .slice A8 s1.Flat.length c9, .bool false, .bool false, .bool true, .pointer (some ⟨b13, 5, none⟩), .int .i64 s1.Full, .bool false, .bool false, .pointer (some ⟨b13, 5, none⟩), .int .i64 s1.Full, .bool false, .bool false, .bool false, .pointer (some ⟨b13, 6, none⟩), .int .i64 s1.Gain, .bool false, .bool false, .bool false, .pointer (some ⟨b13, 6, none⟩), .int .i64 s1.Gain, .bool false, .bool false, .bool false, .pointer (some ⟨b13, 7, none⟩), .int .i64 s1.Noise, .bool false, .bool false, .bool false, .pointer (some ⟨b13, 7, none⟩), .int .i64 s1.Noise, .bool true, .bool true], []⟩) (by kernel_rfl) ?_
                              refine wpList_nil ?_
                              refine hK99 _ _ ?_
                              refine wp_ret ?_
                              refine hr24 _ _ ?_
                              refine hret _ _ ?_
                              refine ends_still (v := Value.int .i64 4) (by kernel_rfl) (by kernel_rfl) ?_
                              have HS115 := HS74.drop
                              injection h with h
                              subst h
                              exact ⟨f71, rfl, (L54.trans (L63.trans L72)), HS115⟩
                            · have c97 : ¬ (s1.Noise > 64) := c97
                              refine wpRwI 58 (x := (decide (s1.Noise > 64))) (v := false) (by kernel_rfl) (decide_eq_false c97) ?_
                              refine wpRwI 85 (x := (decide (s1.Noise > 64))) (v := false) (by kernel_rfl) (decide_eq_false c97) ?_
                              refine wpRwI 86 (x := (decide (s1.Noise > 64))) (v := false) (by kernel_rfl) (decide_eq_false c97) ?_
                              refine condF (by kernel_rfl) ?_
                              refine wp_skip ?_
                              refine hn23 _ _ ?_
                              refine hK18 _ _ ?_
                              refine wp_seq_k (fun K100 hK101 => ?_)
                              refine wp_region_lit ?_
                              refine seqS1 (a' := ⟨#[.agg #[.int .i64 s1.W, .int .i64 s1.H, .slice A2 s1.Bias.length c3, .slice A5 s1.Dark.length c6, .slice A8 s1.Flat.length c9, .int .i64 s1.Full, .int .i64 s1.Gain, .int .i64 s1.Noise], .pointer (some ⟨b13, 0, none⟩), .int .i64 0, .int .i64 (w64 (s1.W * s1.H)), .pointer (some ⟨b13, 0, none⟩), .int .i64 s1.W, .pointer (some ⟨b13, 1, none⟩), .int .i64 s1.H, .int .i64 (w64 (s1.W * s1.H)), .bool false, .pointer (some ⟨b13, 0, none⟩), .int .i64 s1.W, .pointer (some ⟨b13, 1, none⟩), .int .i64 s1.H, .int .i64 (mn s1.W s1.H), .bool false, .bool false, .pointer (some ⟨b13, 0, none⟩), .int .i64 s1.W, .pointer (some ⟨b13, 1, none⟩), .int .i64 s1.H, .int .i64 (mx s1.W s1.H), .bool false, .bool false, .bool false, .pointer (some ⟨b13, 2, none⟩), .slice A2 s1.Bias.length c3, .int .i64 (s1.Bias.length : Int), .int .i64 (w64 (s1.W * s1.H)), .bool false, .bool false, .pointer (some ⟨b13, 3, none⟩), .slice A5 s1.Dark.length c6, .int .i64 (s1.Dark.length : Int), .int .i64 (w64 (s1.W * s1.H)), .bool false, .bool false, .bool false, .pointer (some ⟨b13, 4, none⟩), .slice A8 s1.Flat.length c9, .int .i64 (s1.Flat.length : Int), .int .i64 (w64 (s1.W * s1.H)), .bool false, .bool false, .bool false, .pointer (some ⟨b13, 2, none⟩), .slice A2 s1.Bias.length c3, .bool false, .bool false, .pointer (some ⟨b13, 3, none⟩), .slice A5 s1.Dark.length c6, .bool false, .bool false, .bool false, .pointer (some ⟨b13, 4, none⟩), .slice A8 s1.Flat.length c9, .bool false, .bool false, .bool false, .pointer (some ⟨b13, 5, none⟩), .int .i64 s1.Full, .bool false, .bool false, .pointer (some ⟨b13, 5, none⟩), .int .i64 s1.Full, .bool false, .bool false, .bool false, .pointer (some ⟨b13, 6, none⟩), .int .i64 s1.Gain, .bool false, .bool false, .bool false, .pointer (some ⟨b13, 6, none⟩), .int .i64 s1.Gain, .bool false, .bool false, .bool false, .pointer (some ⟨b13, 7, none⟩), .int .i64 s1.Noise, .bool false, .bool false, .bool false, .pointer (some ⟨b13, 7, none⟩), .int .i64 s1.Noise, .bool false, .bool false], []⟩) (by kernel_rfl) ?_
                              refine wpList_nil ?_
                              refine hK101 _ _ ?_
                              refine wp_ret ?_
                              refine hret _ _ ?_
                              refine ends_still (v := Value.int .i64 0) (by kernel_rfl) (by kernel_rfl) ?_
                              have HS116 := HS74.drop
                              injection h with h
                              subst h
                              exact ⟨f71, rfl, (L54.trans (L63.trans L72)), HS116⟩

set_option maxRecDepth 100000 in
set_option maxHeartbeats 4000000 in
theorem sensor_sized.calls (k : Nat) (A2 : Option Addr) (c3 : Nat) (A5 : Option Addr) (c6 : Nat) (A8 : Option Addr) (c9 : Nat) (s1 : S_Sensor) (n11 : Int) {t w : World} {f : FM} {H : List Seg} (HS : St t w f (H)) (HR4 : SlR (tInt .i64) f A2 c3 s1.Bias) (HR7 : SlR (tInt .i64) f A5 c6 s1.Dark) (HR10 : SlR (tInt .i64) f A8 c9 s1.Flat) (r1 : Int) (h : sensor_sized k s1 n11 = some r1) :
    Calls Try.prog 55 #[.agg #[.int .i64 s1.W, .int .i64 s1.H, .slice A2 s1.Bias.length c3, .slice A5 s1.Dark.length c6, .slice A8 s1.Flat.length c9, .int .i64 s1.Full, .int .i64 s1.Gain, .int .i64 s1.Noise], .int .i64 n11] w (fun e w' => ∃ (g : FM), e = .returned (Value.int .i64 r1) ∧ FM.le f g ∧ St t w' g (H)) := by
  unfold sensor_sized at h
  refine enter Try.func55 rfl (tm := #[.agg #[.int .i64 s1.W, .int .i64 s1.H, .slice A2 s1.Bias.length c3, .slice A5 s1.Dark.length c6, .slice A8 s1.Flat.length c9, .int .i64 s1.Full, .int .i64 s1.Gain, .int .i64 s1.Noise], .int .i64 n11, undef, undef, undef, undef, undef, undef, undef, undef, undef, undef, undef, undef, undef, undef, undef, undef]) (by kernel_rfl) ?_
  intro B hret hnor hnp
  refine wp_seq_k (fun K12 hK13 => ?_)
  refine wp_region_lit ?_
  refine seqK rfl (does_box (cs := #[.int .i64 s1.W, .int .i64 s1.H, .slice A2 s1.Bias.length c3, .slice A5 s1.Dark.length c6, .slice A8 s1.Flat.length c9, .int .i64 s1.Full, .int .i64 s1.Gain, .int .i64 s1.Noise]) rfl (by kernel_rfl : _ = Value.agg #[.int .i64 s1.W, .int .i64 s1.H, .slice A2 s1.Bias.length c3, .slice A5 s1.Dark.length c6, .slice A8 s1.Flat.length c9, .int .i64 s1.Full, .int .i64 s1.Gain, .int .i64 s1.Noise]) rfl HS ?_)
  intro b14 W15 HS16
  refine seqS1 (a' := ⟨#[.agg #[.int .i64 s1.W, .int .i64 s1.H, .slice A2 s1.Bias.length c3, .slice A5 s1.Dark.length c6, .slice A8 s1.Flat.length c9, .int .i64 s1.Full, .int .i64 s1.Gain, .int .i64 s1.Noise], .int .i64 n11, .pointer (some ⟨b14, 0, none⟩), undef, .int .i64 0, undef, undef, undef, undef, undef, undef, undef, undef, undef, undef, undef, undef, undef], []⟩) (by kernel_rfl) ?_
  refine wpList_nil ?_
  refine hK13 _ _ ?_
  refine wp_seq_k (fun K18 hK19 => ?_)
  refine wp_seq_k (fun K20 hK21 => ?_)
  refine wp_region_lit ?_
  refine seqK rfl (does_run (run_loadN (n := 8) rfl Try.underlying64 rfl (by kernel_rfl) (by kernel_rfl : _ = Value.pointer (some ⟨b14, 0, none⟩)) (cs := [.int .i64 s1.W, .int .i64 s1.H, .slice A2 s1.Bias.length c3, .slice A5 s1.Dark.length c6, .slice A8 s1.Flat.length c9, .int .i64 s1.Full, .int .i64 s1.Gain, .int .i64 s1.Noise]) rfl (HS16.cells 0 8 _ rfl)) ?_)
  have hq_ := bind_some h; clear h; obtain ⟨vt22, hc23, h⟩ := hq_
  refine seqK rfl (does_call (f := 93) (args := #[.agg #[.int .i64 s1.W, .int .i64 s1.H, .slice A2 s1.Bias.length c3, .slice A5 s1.Dark.length c6, .slice A8 s1.Flat.length c9, .int .i64 s1.Full, .int .i64 s1.Gain, .int .i64 s1.Noise]]) (by kernel_rfl) (sensor_Check.calls k A2 c3 A5 c6 A8 c9 s1 HS16 HR4 HR7 HR10 vt22 hc23) ?_)
  rintro _ W26 ⟨f24, rfl, L25, HS27⟩
  refine ⟨_, rfl, ?_⟩
  refine seqS1 (a' := ⟨#[.agg #[.int .i64 s1.W, .int .i64 s1.H, .slice A2 s1.Bias.length c3, .slice A5 s1.Dark.length c6, .slice A8 s1.Flat.length c9, .int .i64 s1.Full, .int .i64 s1.Gain, .int .i64 s1.Noise], .int .i64 n11, .pointer (some ⟨b14, 0, none⟩), undef, .int .i64 0, .int .i64 vt22, .agg #[.int .i64 s1.W, .int .i64 s1.H, .slice A2 s1.Bias.length c3, .slice A5 s1.Dark.length c6, .slice A8 s1.Flat.length c9, .int .i64 s1.Full, .int .i64 s1.Gain, .int .i64 s1.Noise], .int .i64 vt22, undef, undef, undef, undef, undef, undef, undef, undef, undef, undef], []⟩) (by kernel_rfl) ?_
  refine wpList_nil ?_
  refine hK21 _ _ ?_
  refine wp_seq_k (fun K28 hK29 => ?_)
  refine wp_region_lit ?_
  refine seqS2 (a' := ⟨#[.agg #[.int .i64 s1.W, .int .i64 s1.H, .slice A2 s1.Bias.length c3, .slice A5 s1.Dark.length c6, .slice A8 s1.Flat.length c9, .int .i64 s1.Full, .int .i64 s1.Gain, .int .i64 s1.Noise], .int .i64 n11, .pointer (some ⟨b14, 0, none⟩), undef, .int .i64 0, .int .i64 vt22, .agg #[.int .i64 s1.W, .int .i64 s1.H, .slice A2 s1.Bias.length c3, .slice A5 s1.Dark.length c6, .slice A8 s1.Flat.length c9, .int .i64 s1.Full, .int .i64 s1.Gain, .int .i64 s1.Noise], .int .i64 vt22, .int .i64 vt22, .bool (vt22 != 0), undef, undef, undef, undef, undef, undef, undef, undef], []⟩) (by kernel_rfl) ?_
  refine wpList_nil ?_
  refine hK29 _ _ ?_
  have hq_ := ite_some h; clear h; rcases hq_ with ⟨c31, h⟩ | ⟨c31, h⟩
  · have c31 : vt22 ≠ 0 := c31
    refine wpRwI 9 (x := (vt22 != 0)) (v := true) (by kernel_rfl) (bne_iff_ne.mpr c31) ?_
    refine condT (by kernel_rfl) ?_
    refine wp_seq_k (fun K32 hK33 => ?_)
    refine wp_region_lit ?_
    refine seqS2 (a' := ⟨#[.agg #[.int .i64 s1.W, .int .i64 s1.H, .slice A2 s1.Bias.length c3, .slice A5 s1.Dark.length c6, .slice A8 s1.Flat.length c9, .int .i64 s1.Full, .int .i64 s1.Gain, .int .i64 s1.Noise], .int .i64 n11, .pointer (some ⟨b14, 0, none⟩), undef, .int .i64 vt22, .int .i64 vt22, .agg #[.int .i64 s1.W, .int .i64 s1.H, .slice A2 s1.Bias.length c3, .slice A5 s1.Dark.length c6, .slice A8 s1.Flat.length c9, .int .i64 s1.Full, .int .i64 s1.Gain, .int .i64 s1.Noise], .int .i64 vt22, .int .i64 vt22, .bool true, .int .i64 vt22, undef, undef, undef, undef, undef, undef, undef], []⟩) (by kernel_rfl) ?_
    refine wpList_nil ?_
    refine hK33 _ _ ?_
    refine wp_ret ?_
    refine hret _ _ ?_
    refine ends_still (v := Value.int .i64 vt22) (by kernel_rfl) (by kernel_rfl) ?_
    have HS44 := HS27.drop
    injection h with h
    subst h
    exact ⟨f24, rfl, L25, HS44⟩
  · have c31 : ¬ (vt22 ≠ 0) := c31
    refine wpRwI 9 (x := (vt22 != 0)) (v := false) (by kernel_rfl) (bne_eq_false_iff_eq.mpr (Decidable.of_not_not c31)) ?_
    refine condF (by kernel_rfl) ?_
    refine wp_skip ?_
    refine hK19 _ _ ?_
    refine wp_seq_k (fun K34 hK35 => ?_)
    refine wp_seq_k (fun K36 hK37 => ?_)
    refine wp_region_lit ?_
    refine seqL2 (by kernel_rfl) ?_
    refine seqK rfl (does_run (run_load rfl Try.underlying3 rfl (by kernel_rfl : _ = Value.pointer (some ⟨b14, 0, none⟩)) (HS27.cell 0)) ?_)
    refine seqL1 (by kernel_rfl) ?_
    refine seqK rfl (does_run (run_load rfl Try.underlying3 rfl (by kernel_rfl : _ = Value.pointer (some ⟨b14, 1, none⟩)) (HS27.cell 1)) ?_)
    refine seqS2 (a' := ⟨#[.agg #[.int .i64 s1.W, .int .i64 s1.H, .slice A2 s1.Bias.length c3, .slice A5 s1.Dark.length c6, .slice A8 s1.Flat.length c9, .int .i64 s1.Full, .int .i64 s1.Gain, .int .i64 s1.Noise], .int .i64 n11, .pointer (some ⟨b14, 0, none⟩), undef, .int .i64 0, .int .i64 vt22, .agg #[.int .i64 s1.W, .int .i64 s1.H, .slice A2 s1.Bias.length c3, .slice A5 s1.Dark.length c6, .slice A8 s1.Flat.length c9, .int .i64 s1.Full, .int .i64 s1.Gain, .int .i64 s1.Noise], .int .i64 vt22, .int .i64 vt22, .bool false, undef, .int .i64 n11, .pointer (some ⟨b14, 0, none⟩), .int .i64 s1.W, .pointer (some ⟨b14, 1, none⟩), .int .i64 s1.H, .int .i64 (w64 (s1.W * s1.H)), .bool (n11 != (w64 (s1.W * s1.H)))], []⟩) (by kernel_rfl) ?_
    refine wpList_nil ?_
    refine hK37 _ _ ?_
    have hq_ := ite_some h; clear h; rcases hq_ with ⟨c39, h⟩ | ⟨c39, h⟩
    · have c39 : n11 ≠ (w64 (s1.W * s1.H)) := c39
      refine wpRwI 17 (x := (n11 != (w64 (s1.W * s1.H)))) (v := true) (by kernel_rfl) (bne_iff_ne.mpr c39) ?_
      refine condT (by kernel_rfl) ?_
      refine wp_seq_k (fun K40 hK41 => ?_)
      refine wp_region_lit ?_
      refine seqS1 (a' := ⟨#[.agg #[.int .i64 s1.W, .int .i64 s1.H, .slice A2 s1.Bias.length c3, .slice A5 s1.Dark.length c6, .slice A8 s1.Flat.length c9, .int .i64 s1.Full, .int .i64 s1.Gain, .int .i64 s1.Noise], .int .i64 n11, .pointer (some ⟨b14, 0, none⟩), undef, .int .i64 3, .int .i64 vt22, .agg #[.int .i64 s1.W, .int .i64 s1.H, .slice A2 s1.Bias.length c3, .slice A5 s1.Dark.length c6, .slice A8 s1.Flat.length c9, .int .i64 s1.Full, .int .i64 s1.Gain, .int .i64 s1.Noise], .int .i64 vt22, .int .i64 vt22, .bool false, undef, .int .i64 n11, .pointer (some ⟨b14, 0, none⟩), .int .i64 s1.W, .pointer (some ⟨b14, 1, none⟩), .int .i64 s1.H, .int .i64 (w64 (s1.W * s1.H)), .bool true], []⟩) (by kernel_rfl) ?_
      refine wpList_nil ?_
      refine hK41 _ _ ?_
      refine wp_ret ?_
      refine hret _ _ ?_
      refine ends_still (v := Value.int .i64 3) (by kernel_rfl) (by kernel_rfl) ?_
      have HS45 := HS27.drop
      injection h with h
      subst h
      exact ⟨f24, rfl, L25, HS45⟩
    · have c39 : ¬ (n11 ≠ (w64 (s1.W * s1.H))) := c39
      refine wpRwI 17 (x := (n11 != (w64 (s1.W * s1.H)))) (v := false) (by kernel_rfl) (bne_eq_false_iff_eq.mpr (Decidable.of_not_not c39)) ?_
      refine condF (by kernel_rfl) ?_
      refine wp_skip ?_
      refine hK35 _ _ ?_
      refine wp_seq_k (fun K42 hK43 => ?_)
      refine wp_region_lit ?_
      refine seqS1 (a' := ⟨#[.agg #[.int .i64 s1.W, .int .i64 s1.H, .slice A2 s1.Bias.length c3, .slice A5 s1.Dark.length c6, .slice A8 s1.Flat.length c9, .int .i64 s1.Full, .int .i64 s1.Gain, .int .i64 s1.Noise], .int .i64 n11, .pointer (some ⟨b14, 0, none⟩), undef, .int .i64 0, .int .i64 vt22, .agg #[.int .i64 s1.W, .int .i64 s1.H, .slice A2 s1.Bias.length c3, .slice A5 s1.Dark.length c6, .slice A8 s1.Flat.length c9, .int .i64 s1.Full, .int .i64 s1.Gain, .int .i64 s1.Noise], .int .i64 vt22, .int .i64 vt22, .bool false, undef, .int .i64 n11, .pointer (some ⟨b14, 0, none⟩), .int .i64 s1.W, .pointer (some ⟨b14, 1, none⟩), .int .i64 s1.H, .int .i64 (w64 (s1.W * s1.H)), .bool false], []⟩) (by kernel_rfl) ?_
      refine wpList_nil ?_
      refine hK43 _ _ ?_
      refine wp_ret ?_
      refine hret _ _ ?_
      refine ends_still (v := Value.int .i64 0) (by kernel_rfl) (by kernel_rfl) ?_
      have HS46 := HS27.drop
      injection h with h
      subst h
      exact ⟨f24, rfl, L25, HS46⟩

set_option maxRecDepth 100000 in
set_option maxHeartbeats 4000000 in
theorem num_size.calls (k : Nat)  (a1 : Int) {t w : World} {f : FM} {H : List Seg} (HS : St t w f (H)) (r1 : Int) (h : num_size k a1 = some r1) :
    Calls Try.prog 112 #[.int .i64 a1] w (fun e w' => ∃ (g : FM), e = .returned (Value.int .u64 r1) ∧ FM.le f g ∧ St t w' g (H)) := by
  unfold num_size at h
  refine enter Try.func112 rfl (tm := #[.int .i64 a1, undef, undef, undef, undef, undef, undef, undef, undef, undef]) (by kernel_rfl) ?_
  intro B hret hnor hnp
  refine wp_seq_k (fun K2 hK3 => ?_)
  refine wp_region_lit ?_
  refine seqS1 (a' := ⟨#[.int .i64 a1, undef, .int .u64 0, undef, undef, undef, undef, undef, undef, undef], []⟩) (by kernel_rfl) ?_
  refine wpList_nil ?_
  refine hK3 _ _ ?_
  refine wp_seq_k (fun K4 hK5 => ?_)
  refine wp_seq_k (fun K6 hK7 => ?_)
  refine wp_region_lit ?_
  refine seqS2 (a' := ⟨#[.int .i64 a1, undef, .int .u64 0, .int .i64 a1, .bool (decide (a1 < 0)), undef, undef, undef, undef, undef], []⟩) (by kernel_rfl) ?_
  refine wpList_nil ?_
  refine hK7 _ _ ?_
  have hq_ := ite_some h; clear h; rcases hq_ with ⟨c9, h⟩ | ⟨c9, h⟩
  · have c9 : a1 < 0 := c9
    refine wpRwI 4 (x := (decide (a1 < 0))) (v := true) (by kernel_rfl) (decide_eq_true c9) ?_
    refine condT (by kernel_rfl) ?_
    refine wp_seq_k (fun K10 hK11 => ?_)
    refine wp_region_lit ?_
    refine seqS4 (a' := ⟨#[.int .i64 a1, undef, .int .u64 (u64 (0 - (u64 (a1)))), .int .i64 a1, .bool true, .int .i64 a1, .int .u64 (u64 (a1)), .int .u64 (u64 (0 - (u64 (a1)))), undef, undef], []⟩) (by kernel_rfl) ?_
    refine wpList_nil ?_
    refine hK11 _ _ ?_
    refine wp_ret ?_
    refine hret _ _ ?_
    refine ends_still (v := Value.int .u64 (u64 (0 - (u64 (a1))))) (by kernel_rfl) (by kernel_rfl) ?_
    injection h with h
    subst h
    exact ⟨f, rfl, FM.le.refl _, HS⟩
  · have c9 : ¬ (a1 < 0) := c9
    refine wpRwI 4 (x := (decide (a1 < 0))) (v := false) (by kernel_rfl) (decide_eq_false c9) ?_
    refine condF (by kernel_rfl) ?_
    refine wp_skip ?_
    refine hK5 _ _ ?_
    refine wp_seq_k (fun K12 hK13 => ?_)
    refine wp_region_lit ?_
    refine seqS3 (a' := ⟨#[.int .i64 a1, undef, .int .u64 (u64 (a1)), .int .i64 a1, .bool false, undef, undef, undef, .int .i64 a1, .int .u64 (u64 (a1))], []⟩) (by kernel_rfl) ?_
    refine wpList_nil ?_
    refine hK13 _ _ ?_
    refine wp_ret ?_
    refine hret _ _ ?_
    refine ends_still (v := Value.int .u64 (u64 (a1))) (by kernel_rfl) (by kernel_rfl) ?_
    injection h with h
    subst h
    exact ⟨f, rfl, FM.le.refl _, HS⟩

set_option maxRecDepth 100000 in
set_option maxHeartbeats 4000000 in
theorem bits_Mul64.calls (k : Nat)  (x1 : Int) (y2 : Int) {t w : World} {f : FM} {H : List Seg} (HS : St t w f (H)) (r1 : Int) (r2 : Int) (h : bits_Mul64 k x1 y2 = some (r1, r2)) :
    Calls Try.prog 97 #[.int .u64 x1, .int .u64 y2] w (fun e w' => ∃ (g : FM), e = .returned (Value.tuple #[.int .u64 r1, .int .u64 r2]) ∧ FM.le f g ∧ St t w' g (H)) := by
  unfold bits_Mul64 at h
  refine enter Try.func97 rfl (tm := #[.int .u64 x1, .int .u64 y2, undef, undef, undef, undef, undef, undef, undef, undef, undef, undef, undef, undef, undef, undef, undef, undef, undef, undef, undef, undef, undef, undef, undef, undef, undef, undef, undef, undef, undef, undef, undef, undef, undef, undef, undef, undef, undef, undef, undef, undef, undef, undef, undef, undef, undef, undef, undef, undef, undef]) (by kernel_rfl) ?_
  intro B hret hnor hnp
  refine wp_seq_k (fun K3 hK4 => ?_)
  refine wp_region_lit ?_
  refine seqS2 (a' := ⟨#[.int .u64 x1, .int .u64 y2, undef, undef, .int .u64 0, .int .u64 0, undef, undef, undef, undef, undef, undef, undef, undef, undef, undef, undef, undef, undef, undef, undef, undef, undef, undef, undef, undef, undef, undef, undef, undef, undef, undef, undef, undef, undef, undef, undef, undef, undef, undef, undef, undef, undef, undef, undef, undef, undef, undef, undef, undef, undef], []⟩) (by kernel_rfl) ?_
  refine wpList_nil ?_
  refine hK4 _ _ ?_
  refine wp_seq_k (fun K5 hK6 => ?_)
  refine wp_region_lit ?_
  refine seqS3 (a' := ⟨#[.int .u64 x1, .int .u64 y2, undef, undef, .int .u64 0, .int .u64 0, .int .u64 (Go.bits .and .u64 x1 4294967295), undef, undef, undef, undef, undef, undef, undef, .int .u64 x1, .int .u64 (Go.bits .and .u64 x1 4294967295), undef, undef, undef, undef, undef, undef, undef, undef, undef, undef, undef, undef, undef, undef, undef, undef, undef, undef, undef, undef, undef, undef, undef, undef, undef, undef, undef, undef, undef, undef, undef, undef, undef, undef, undef], []⟩) (by kernel_rfl) ?_
  refine wpList_nil ?_
  refine hK6 _ _ ?_
  refine wp_seq_k (fun K7 hK8 => ?_)
  refine wp_region_lit ?_
  refine seqS3 (a' := ⟨#[.int .u64 x1, .int .u64 y2, undef, undef, .int .u64 0, .int .u64 0, .int .u64 (Go.bits .and .u64 x1 4294967295), .int .u64 (shr x1 32), undef, undef, undef, undef, undef, undef, .int .u64 x1, .int .u64 (Go.bits .and .u64 x1 4294967295), .int .u64 x1, .int .u64 (shr x1 32), undef, undef, undef, undef, undef, undef, undef, undef, undef, undef, undef, undef, undef, undef, undef, undef, undef, undef, undef, undef, undef, undef, undef, undef, undef, undef, undef, undef, undef, undef, undef, undef, undef], []⟩) (by kernel_rfl) ?_
  refine wpList_nil ?_
  refine hK8 _ _ ?_
  refine wp_seq_k (fun K9 hK10 => ?_)
  refine wp_region_lit ?_
  refine seqS3 (a' := ⟨#[.int .u64 x1, .int .u64 y2, undef, undef, .int .u64 0, .int .u64 0, .int .u64 (Go.bits .and .u64 x1 4294967295), .int .u64 (shr x1 32), .int .u64 (Go.bits .and .u64 y2 4294967295), undef, undef, undef, undef, undef, .int .u64 x1, .int .u64 (Go.bits .and .u64 x1 4294967295), .int .u64 x1, .int .u64 (shr x1 32), .int .u64 y2, .int .u64 (Go.bits .and .u64 y2 4294967295), undef, undef, undef, undef, undef, undef, undef, undef, undef, undef, undef, undef, undef, undef, undef, undef, undef, undef, undef, undef, undef, undef, undef, undef, undef, undef, undef, undef, undef, undef, undef], []⟩) (by kernel_rfl) ?_
  refine wpList_nil ?_
  refine hK10 _ _ ?_
  refine wp_seq_k (fun K11 hK12 => ?_)
  refine wp_region_lit ?_
  refine seqS3 (a' := ⟨#[.int .u64 x1, .int .u64 y2, undef, undef, .int .u64 0, .int .u64 0, .int .u64 (Go.bits .and .u64 x1 4294967295), .int .u64 (shr x1 32), .int .u64 (Go.bits .and .u64 y2 4294967295), .int .u64 (shr y2 32), undef, undef, undef, undef, .int .u64 x1, .int .u64 (Go.bits .and .u64 x1 4294967295), .int .u64 x1, .int .u64 (shr x1 32), .int .u64 y2, .int .u64 (Go.bits .and .u64 y2 4294967295), .int .u64 y2, .int .u64 (shr y2 32), undef, undef, undef, undef, undef, undef, undef, undef, undef, undef, undef, undef, undef, undef, undef, undef, undef, undef, undef, undef, undef, undef, undef, undef, undef, undef, undef, undef, undef], []⟩) (by kernel_rfl) ?_
  refine wpList_nil ?_
  refine hK12 _ _ ?_
  refine wp_seq_k (fun K13 hK14 => ?_)
  refine wp_region_lit ?_
  refine seqS4 (a' := ⟨#[.int .u64 x1, .int .u64 y2, undef, undef, .int .u64 0, .int .u64 0, .int .u64 (Go.bits .and .u64 x1 4294967295), .int .u64 (shr x1 32), .int .u64 (Go.bits .and .u64 y2 4294967295), .int .u64 (shr y2 32), .int .u64 (u64 ((Go.bits .and .u64 x1 4294967295) * (Go.bits .and .u64 y2 4294967295))), undef, undef, undef, .int .u64 x1, .int .u64 (Go.bits .and .u64 x1 4294967295), .int .u64 x1, .int .u64 (shr x1 32), .int .u64 y2, .int .u64 (Go.bits .and .u64 y2 4294967295), .int .u64 y2, .int .u64 (shr y2 32), .int .u64 (Go.bits .and .u64 x1 4294967295), .int .u64 (Go.bits .and .u64 y2 4294967295), .int .u64 (u64 ((Go.bits .and .u64 x1 4294967295) * (Go.bits .and .u64 y2 4294967295))), undef, undef, undef, undef, undef, undef, undef, undef, undef, undef, undef, undef, undef, undef, undef, undef, undef, undef, undef, undef, undef, undef, undef, undef, undef, undef], []⟩) (by kernel_rfl) ?_
  refine wpList_nil ?_
  refine hK14 _ _ ?_
  refine wp_seq_k (fun K15 hK16 => ?_)
  refine wp_region_lit ?_
  refine seqS7 (a' := ⟨#[.int .u64 x1, .int .u64 y2, undef, undef, .int .u64 0, .int .u64 0, .int .u64 (Go.bits .and .u64 x1 4294967295), .int .u64 (shr x1 32), .int .u64 (Go.bits .and .u64 y2 4294967295), .int .u64 (shr y2 32), .int .u64 (u64 ((Go.bits .and .u64 x1 4294967295) * (Go.bits .and .u64 y2 4294967295))), .int .u64 (u64 ((u64 ((shr x1 32) * (Go.bits .and .u64 y2 4294967295))) + (shr (u64 ((Go.bits .and .u64 x1 4294967295) * (Go.bits .and .u64 y2 4294967295))) 32))), undef, undef, .int .u64 x1, .int .u64 (Go.bits .and .u64 x1 4294967295), .int .u64 x1, .int .u64 (shr x1 32), .int .u64 y2, .int .u64 (Go.bits .and .u64 y2 4294967295), .int .u64 y2, .int .u64 (shr y2 32), .int .u64 (Go.bits .and .u64 x1 4294967295), .int .u64 (Go.bits .and .u64 y2 4294967295), .int .u64 (u64 ((Go.bits .and .u64 x1 4294967295) * (Go.bits .and .u64 y2 4294967295))), .int .u64 (shr x1 32), .int .u64 (Go.bits .and .u64 y2 4294967295), .int .u64 (u64 ((shr x1 32) * (Go.bits .and .u64 y2 4294967295))), .int .u64 (u64 ((Go.bits .and .u64 x1 4294967295) * (Go.bits .and .u64 y2 4294967295))), .int .u64 (shr (u64 ((Go.bits .and .u64 x1 4294967295) * (Go.bits .and .u64 y2 4294967295))) 32), .int .u64 (u64 ((u64 ((shr x1 32) * (Go.bits .and .u64 y2 4294967295))) + (shr (u64 ((Go.bits .and .u64 x1 4294967295) * (Go.bits .and .u64 y2 4294967295))) 32))), undef, undef, undef, undef, undef, undef, undef, undef, undef, undef, undef, undef, undef, undef, undef, undef, undef, undef, undef, undef], []⟩) (by kernel_rfl) ?_
  refine wpList_nil ?_
  refine hK16 _ _ ?_
  refine wp_seq_k (fun K17 hK18 => ?_)
  refine wp_region_lit ?_
  refine seqS3 (a' := ⟨#[.int .u64 x1, .int .u64 y2, undef, undef, .int .u64 0, .int .u64 0, .int .u64 (Go.bits .and .u64 x1 4294967295), .int .u64 (shr x1 32), .int .u64 (Go.bits .and .u64 y2 4294967295), .int .u64 (shr y2 32), .int .u64 (u64 ((Go.bits .and .u64 x1 4294967295) * (Go.bits .and .u64 y2 4294967295))), .int .u64 (u64 ((u64 ((shr x1 32) * (Go.bits .and .u64 y2 4294967295))) + (shr (u64 ((Go.bits .and .u64 x1 4294967295) * (Go.bits .and .u64 y2 4294967295))) 32))), .int .u64 (Go.bits .and .u64 (u64 ((u64 ((shr x1 32) * (Go.bits .and .u64 y2 4294967295))) + (shr (u64 ((Go.bits .and .u64 x1 4294967295) * (Go.bits .and .u64 y2 4294967295))) 32))) 4294967295), undef, .int .u64 x1, .int .u64 (Go.bits .and .u64 x1 4294967295), .int .u64 x1, .int .u64 (shr x1 32), .int .u64 y2, .int .u64 (Go.bits .and .u64 y2 4294967295), .int .u64 y2, .int .u64 (shr y2 32), .int .u64 (Go.bits .and .u64 x1 4294967295), .int .u64 (Go.bits .and .u64 y2 4294967295), .int .u64 (u64 ((Go.bits .and .u64 x1 4294967295) * (Go.bits .and .u64 y2 4294967295))), .int .u64 (shr x1 32), .int .u64 (Go.bits .and .u64 y2 4294967295), .int .u64 (u64 ((shr x1 32) * (Go.bits .and .u64 y2 4294967295))), .int .u64 (u64 ((Go.bits .and .u64 x1 4294967295) * (Go.bits .and .u64 y2 4294967295))), .int .u64 (shr (u64 ((Go.bits .and .u64 x1 4294967295) * (Go.bits .and .u64 y2 4294967295))) 32), .int .u64 (u64 ((u64 ((shr x1 32) * (Go.bits .and .u64 y2 4294967295))) + (shr (u64 ((Go.bits .and .u64 x1 4294967295) * (Go.bits .and .u64 y2 4294967295))) 32))), .int .u64 (u64 ((u64 ((shr x1 32) * (Go.bits .and .u64 y2 4294967295))) + (shr (u64 ((Go.bits .and .u64 x1 4294967295) * (Go.bits .and .u64 y2 4294967295))) 32))), .int .u64 (Go.bits .and .u64 (u64 ((u64 ((shr x1 32) * (Go.bits .and .u64 y2 4294967295))) + (shr (u64 ((Go.bits .and .u64 x1 4294967295) * (Go.bits .and .u64 y2 4294967295))) 32))) 4294967295), undef, undef, undef, undef, undef, undef, undef, undef, undef, undef, undef, undef, undef, undef, undef, undef, undef, undef], []⟩) (by kernel_rfl) ?_
  refine wpList_nil ?_
  refine hK18 _ _ ?_
  refine wp_seq_k (fun K19 hK20 => ?_)
  refine wp_region_lit ?_
  refine seqS3 (a' := ⟨#[.int .u64 x1, .int .u64 y2, undef, undef, .int .u64 0, .int .u64 0, .int .u64 (Go.bits .and .u64 x1 4294967295), .int .u64 (shr x1 32), .int .u64 (Go.bits .and .u64 y2 4294967295), .int .u64 (shr y2 32), .int .u64 (u64 ((Go.bits .and .u64 x1 4294967295) * (Go.bits .and .u64 y2 4294967295))), .int .u64 (u64 ((u64 ((shr x1 32) * (Go.bits .and .u64 y2 4294967295))) + (shr (u64 ((Go.bits .and .u64 x1 4294967295) * (Go.bits .and .u64 y2 4294967295))) 32))), .int .u64 (Go.bits .and .u64 (u64 ((u64 ((shr x1 32) * (Go.bits .and .u64 y2 4294967295))) + (shr (u64 ((Go.bits .and .u64 x1 4294967295) * (Go.bits .and .u64 y2 4294967295))) 32))) 4294967295), .int .u64 (shr (u64 ((u64 ((shr x1 32) * (Go.bits .and .u64 y2 4294967295))) + (shr (u64 ((Go.bits .and .u64 x1 4294967295) * (Go.bits .and .u64 y2 4294967295))) 32))) 32), .int .u64 x1, .int .u64 (Go.bits .and .u64 x1 4294967295), .int .u64 x1, .int .u64 (shr x1 32), .int .u64 y2, .int .u64 (Go.bits .and .u64 y2 4294967295), .int .u64 y2, .int .u64 (shr y2 32), .int .u64 (Go.bits .and .u64 x1 4294967295), .int .u64 (Go.bits .and .u64 y2 4294967295), .int .u64 (u64 ((Go.bits .and .u64 x1 4294967295) * (Go.bits .and .u64 y2 4294967295))), .int .u64 (shr x1 32), .int .u64 (Go.bits .and .u64 y2 4294967295), .int .u64 (u64 ((shr x1 32) * (Go.bits .and .u64 y2 4294967295))), .int .u64 (u64 ((Go.bits .and .u64 x1 4294967295) * (Go.bits .and .u64 y2 4294967295))), .int .u64 (shr (u64 ((Go.bits .and .u64 x1 4294967295) * (Go.bits .and .u64 y2 4294967295))) 32), .int .u64 (u64 ((u64 ((shr x1 32) * (Go.bits .and .u64 y2 4294967295))) + (shr (u64 ((Go.bits .and .u64 x1 4294967295) * (Go.bits .and .u64 y2 4294967295))) 32))), .int .u64 (u64 ((u64 ((shr x1 32) * (Go.bits .and .u64 y2 4294967295))) + (shr (u64 ((Go.bits .and .u64 x1 4294967295) * (Go.bits .and .u64 y2 4294967295))) 32))), .int .u64 (Go.bits .and .u64 (u64 ((u64 ((shr x1 32) * (Go.bits .and .u64 y2 4294967295))) + (shr (u64 ((Go.bits .and .u64 x1 4294967295) * (Go.bits .and .u64 y2 4294967295))) 32))) 4294967295), .int .u64 (u64 ((u64 ((shr x1 32) * (Go.bits .and .u64 y2 4294967295))) + (shr (u64 ((Go.bits .and .u64 x1 4294967295) * (Go.bits .and .u64 y2 4294967295))) 32))), .int .u64 (shr (u64 ((u64 ((shr x1 32) * (Go.bits .and .u64 y2 4294967295))) + (shr (u64 ((Go.bits .and .u64 x1 4294967295) * (Go.bits .and .u64 y2 4294967295))) 32))) 32), undef, undef, undef, undef, undef, undef, undef, undef, undef, undef, undef, undef, undef, undef, undef, undef], []⟩) (by kernel_rfl) ?_
  refine wpList_nil ?_
  refine hK20 _ _ ?_
  refine wp_seq_k (fun K21 hK22 => ?_)
  refine wp_region_lit ?_
  refine seqS6 (a' := ⟨#[.int .u64 x1, .int .u64 y2, undef, undef, .int .u64 0, .int .u64 0, .int .u64 (Go.bits .and .u64 x1 4294967295), .int .u64 (shr x1 32), .int .u64 (Go.bits .and .u64 y2 4294967295), .int .u64 (shr y2 32), .int .u64 (u64 ((Go.bits .and .u64 x1 4294967295) * (Go.bits .and .u64 y2 4294967295))), .int .u64 (u64 ((u64 ((shr x1 32) * (Go.bits .and .u64 y2 4294967295))) + (shr (u64 ((Go.bits .and .u64 x1 4294967295) * (Go.bits .and .u64 y2 4294967295))) 32))), .int .u64 (u64 ((Go.bits .and .u64 (u64 ((u64 ((shr x1 32) * (Go.bits .and .u64 y2 4294967295))) + (shr (u64 ((Go.bits .and .u64 x1 4294967295) * (Go.bits .and .u64 y2 4294967295))) 32))) 4294967295) + (u64 ((Go.bits .and .u64 x1 4294967295) * (shr y2 32))))), .int .u64 (shr (u64 ((u64 ((shr x1 32) * (Go.bits .and .u64 y2 4294967295))) + (shr (u64 ((Go.bits .and .u64 x1 4294967295) * (Go.bits .and .u64 y2 4294967295))) 32))) 32), .int .u64 x1, .int .u64 (Go.bits .and .u64 x1 4294967295), .int .u64 x1, .int .u64 (shr x1 32), .int .u64 y2, .int .u64 (Go.bits .and .u64 y2 4294967295), .int .u64 y2, .int .u64 (shr y2 32), .int .u64 (Go.bits .and .u64 x1 4294967295), .int .u64 (Go.bits .and .u64 y2 4294967295), .int .u64 (u64 ((Go.bits .and .u64 x1 4294967295) * (Go.bits .and .u64 y2 4294967295))), .int .u64 (shr x1 32), .int .u64 (Go.bits .and .u64 y2 4294967295), .int .u64 (u64 ((shr x1 32) * (Go.bits .and .u64 y2 4294967295))), .int .u64 (u64 ((Go.bits .and .u64 x1 4294967295) * (Go.bits .and .u64 y2 4294967295))), .int .u64 (shr (u64 ((Go.bits .and .u64 x1 4294967295) * (Go.bits .and .u64 y2 4294967295))) 32), .int .u64 (u64 ((u64 ((shr x1 32) * (Go.bits .and .u64 y2 4294967295))) + (shr (u64 ((Go.bits .and .u64 x1 4294967295) * (Go.bits .and .u64 y2 4294967295))) 32))), .int .u64 (u64 ((u64 ((shr x1 32) * (Go.bits .and .u64 y2 4294967295))) + (shr (u64 ((Go.bits .and .u64 x1 4294967295) * (Go.bits .and .u64 y2 4294967295))) 32))), .int .u64 (Go.bits .and .u64 (u64 ((u64 ((shr x1 32) * (Go.bits .and .u64 y2 4294967295))) + (shr (u64 ((Go.bits .and .u64 x1 4294967295) * (Go.bits .and .u64 y2 4294967295))) 32))) 4294967295), .int .u64 (u64 ((u64 ((shr x1 32) * (Go.bits .and .u64 y2 4294967295))) + (shr (u64 ((Go.bits .and .u64 x1 4294967295) * (Go.bits .and .u64 y2 4294967295))) 32))), .int .u64 (shr (u64 ((u64 ((shr x1 32) * (Go.bits .and .u64 y2 4294967295))) + (shr (u64 ((Go.bits .and .u64 x1 4294967295) * (Go.bits .and .u64 y2 4294967295))) 32))) 32), .int .u64 (Go.bits .and .u64 (u64 ((u64 ((shr x1 32) * (Go.bits .and .u64 y2 4294967295))) + (shr (u64 ((Go.bits .and .u64 x1 4294967295) * (Go.bits .and .u64 y2 4294967295))) 32))) 4294967295), .int .u64 (Go.bits .and .u64 x1 4294967295), .int .u64 (shr y2 32), .int .u64 (u64 ((Go.bits .and .u64 x1 4294967295) * (shr y2 32))), .int .u64 (u64 ((Go.bits .and .u64 (u64 ((u64 ((shr x1 32) * (Go.bits .and .u64 y2 4294967295))) + (shr (u64 ((Go.bits .and .u64 x1 4294967295) * (Go.bits .and .u64 y2 4294967295))) 32))) 4294967295) + (u64 ((Go.bits .and .u64 x1 4294967295) * (shr y2 32))))), undef, undef, undef, undef, undef, undef, undef, undef, undef, undef, undef], []⟩) (by kernel_rfl) ?_
  refine wpList_nil ?_
  refine hK22 _ _ ?_
  refine wp_seq_k (fun K23 hK24 => ?_)
  refine wp_region_lit ?_
  refine seqS9 (a' := ⟨#[.int .u64 x1, .int .u64 y2, undef, undef, .int .u64 (u64 ((u64 ((u64 ((shr x1 32) * (shr y2 32))) + (shr (u64 ((u64 ((shr x1 32) * (Go.bits .and .u64 y2 4294967295))) + (shr (u64 ((Go.bits .and .u64 x1 4294967295) * (Go.bits .and .u64 y2 4294967295))) 32))) 32))) + (shr (u64 ((Go.bits .and .u64 (u64 ((u64 ((shr x1 32) * (Go.bits .and .u64 y2 4294967295))) + (shr (u64 ((Go.bits .and .u64 x1 4294967295) * (Go.bits .and .u64 y2 4294967295))) 32))) 4294967295) + (u64 ((Go.bits .and .u64 x1 4294967295) * (shr y2 32))))) 32))), .int .u64 0, .int .u64 (Go.bits .and .u64 x1 4294967295), .int .u64 (shr x1 32), .int .u64 (Go.bits .and .u64 y2 4294967295), .int .u64 (shr y2 32), .int .u64 (u64 ((Go.bits .and .u64 x1 4294967295) * (Go.bits .and .u64 y2 4294967295))), .int .u64 (u64 ((u64 ((shr x1 32) * (Go.bits .and .u64 y2 4294967295))) + (shr (u64 ((Go.bits .and .u64 x1 4294967295) * (Go.bits .and .u64 y2 4294967295))) 32))), .int .u64 (u64 ((Go.bits .and .u64 (u64 ((u64 ((shr x1 32) * (Go.bits .and .u64 y2 4294967295))) + (shr (u64 ((Go.bits .and .u64 x1 4294967295) * (Go.bits .and .u64 y2 4294967295))) 32))) 4294967295) + (u64 ((Go.bits .and .u64 x1 4294967295) * (shr y2 32))))), .int .u64 (shr (u64 ((u64 ((shr x1 32) * (Go.bits .and .u64 y2 4294967295))) + (shr (u64 ((Go.bits .and .u64 x1 4294967295) * (Go.bits .and .u64 y2 4294967295))) 32))) 32), .int .u64 x1, .int .u64 (Go.bits .and .u64 x1 4294967295), .int .u64 x1, .int .u64 (shr x1 32), .int .u64 y2, .int .u64 (Go.bits .and .u64 y2 4294967295), .int .u64 y2, .int .u64 (shr y2 32), .int .u64 (Go.bits .and .u64 x1 4294967295), .int .u64 (Go.bits .and .u64 y2 4294967295), .int .u64 (u64 ((Go.bits .and .u64 x1 4294967295) * (Go.bits .and .u64 y2 4294967295))), .int .u64 (shr x1 32), .int .u64 (Go.bits .and .u64 y2 4294967295), .int .u64 (u64 ((shr x1 32) * (Go.bits .and .u64 y2 4294967295))), .int .u64 (u64 ((Go.bits .and .u64 x1 4294967295) * (Go.bits .and .u64 y2 4294967295))), .int .u64 (shr (u64 ((Go.bits .and .u64 x1 4294967295) * (Go.bits .and .u64 y2 4294967295))) 32), .int .u64 (u64 ((u64 ((shr x1 32) * (Go.bits .and .u64 y2 4294967295))) + (shr (u64 ((Go.bits .and .u64 x1 4294967295) * (Go.bits .and .u64 y2 4294967295))) 32))), .int .u64 (u64 ((u64 ((shr x1 32) * (Go.bits .and .u64 y2 4294967295))) + (shr (u64 ((Go.bits .and .u64 x1 4294967295) * (Go.bits .and .u64 y2 4294967295))) 32))), .int .u64 (Go.bits .and .u64 (u64 ((u64 ((shr x1 32) * (Go.bits .and .u64 y2 4294967295))) + (shr (u64 ((Go.bits .and .u64 x1 4294967295) * (Go.bits .and .u64 y2 4294967295))) 32))) 4294967295), .int .u64 (u64 ((u64 ((shr x1 32) * (Go.bits .and .u64 y2 4294967295))) + (shr (u64 ((Go.bits .and .u64 x1 4294967295) * (Go.bits .and .u64 y2 4294967295))) 32))), .int .u64 (shr (u64 ((u64 ((shr x1 32) * (Go.bits .and .u64 y2 4294967295))) + (shr (u64 ((Go.bits .and .u64 x1 4294967295) * (Go.bits .and .u64 y2 4294967295))) 32))) 32), .int .u64 (Go.bits .and .u64 (u64 ((u64 ((shr x1 32) * (Go.bits .and .u64 y2 4294967295))) + (shr (u64 ((Go.bits .and .u64 x1 4294967295) * (Go.bits .and .u64 y2 4294967295))) 32))) 4294967295), .int .u64 (Go.bits .and .u64 x1 4294967295), .int .u64 (shr y2 32), .int .u64 (u64 ((Go.bits .and .u64 x1 4294967295) * (shr y2 32))), .int .u64 (u64 ((Go.bits .and .u64 (u64 ((u64 ((shr x1 32) * (Go.bits .and .u64 y2 4294967295))) + (shr (u64 ((Go.bits .and .u64 x1 4294967295) * (Go.bits .and .u64 y2 4294967295))) 32))) 4294967295) + (u64 ((Go.bits .and .u64 x1 4294967295) * (shr y2 32))))), .int .u64 (shr x1 32), .int .u64 (shr y2 32), .int .u64 (u64 ((shr x1 32) * (shr y2 32))), .int .u64 (shr (u64 ((u64 ((shr x1 32) * (Go.bits .and .u64 y2 4294967295))) + (shr (u64 ((Go.bits .and .u64 x1 4294967295) * (Go.bits .and .u64 y2 4294967295))) 32))) 32), .int .u64 (u64 ((u64 ((shr x1 32) * (shr y2 32))) + (shr (u64 ((u64 ((shr x1 32) * (Go.bits .and .u64 y2 4294967295))) + (shr (u64 ((Go.bits .and .u64 x1 4294967295) * (Go.bits .and .u64 y2 4294967295))) 32))) 32))), .int .u64 (u64 ((Go.bits .and .u64 (u64 ((u64 ((shr x1 32) * (Go.bits .and .u64 y2 4294967295))) + (shr (u64 ((Go.bits .and .u64 x1 4294967295) * (Go.bits .and .u64 y2 4294967295))) 32))) 4294967295) + (u64 ((Go.bits .and .u64 x1 4294967295) * (shr y2 32))))), .int .u64 (shr (u64 ((Go.bits .and .u64 (u64 ((u64 ((shr x1 32) * (Go.bits .and .u64 y2 4294967295))) + (shr (u64 ((Go.bits .and .u64 x1 4294967295) * (Go.bits .and .u64 y2 4294967295))) 32))) 4294967295) + (u64 ((Go.bits .and .u64 x1 4294967295) * (shr y2 32))))) 32), .int .u64 (u64 ((u64 ((u64 ((shr x1 32) * (shr y2 32))) + (shr (u64 ((u64 ((shr x1 32) * (Go.bits .and .u64 y2 4294967295))) + (shr (u64 ((Go.bits .and .u64 x1 4294967295) * (Go.bits .and .u64 y2 4294967295))) 32))) 32))) + (shr (u64 ((Go.bits .and .u64 (u64 ((u64 ((shr x1 32) * (Go.bits .and .u64 y2 4294967295))) + (shr (u64 ((Go.bits .and .u64 x1 4294967295) * (Go.bits .and .u64 y2 4294967295))) 32))) 4294967295) + (u64 ((Go.bits .and .u64 x1 4294967295) * (shr y2 32))))) 32))), undef, undef, undef], []⟩) (by kernel_rfl) ?_
  refine wpList_nil ?_
  refine hK24 _ _ ?_
  refine wp_seq_k (fun K25 hK26 => ?_)
  refine wp_region_lit ?_
  refine seqS4 (a' := ⟨#[.int .u64 x1, .int .u64 y2, undef, undef, .int .u64 (u64 ((u64 ((u64 ((shr x1 32) * (shr y2 32))) + (shr (u64 ((u64 ((shr x1 32) * (Go.bits .and .u64 y2 4294967295))) + (shr (u64 ((Go.bits .and .u64 x1 4294967295) * (Go.bits .and .u64 y2 4294967295))) 32))) 32))) + (shr (u64 ((Go.bits .and .u64 (u64 ((u64 ((shr x1 32) * (Go.bits .and .u64 y2 4294967295))) + (shr (u64 ((Go.bits .and .u64 x1 4294967295) * (Go.bits .and .u64 y2 4294967295))) 32))) 4294967295) + (u64 ((Go.bits .and .u64 x1 4294967295) * (shr y2 32))))) 32))), .int .u64 (u64 (x1 * y2)), .int .u64 (Go.bits .and .u64 x1 4294967295), .int .u64 (shr x1 32), .int .u64 (Go.bits .and .u64 y2 4294967295), .int .u64 (shr y2 32), .int .u64 (u64 ((Go.bits .and .u64 x1 4294967295) * (Go.bits .and .u64 y2 4294967295))), .int .u64 (u64 ((u64 ((shr x1 32) * (Go.bits .and .u64 y2 4294967295))) + (shr (u64 ((Go.bits .and .u64 x1 4294967295) * (Go.bits .and .u64 y2 4294967295))) 32))), .int .u64 (u64 ((Go.bits .and .u64 (u64 ((u64 ((shr x1 32) * (Go.bits .and .u64 y2 4294967295))) + (shr (u64 ((Go.bits .and .u64 x1 4294967295) * (Go.bits .and .u64 y2 4294967295))) 32))) 4294967295) + (u64 ((Go.bits .and .u64 x1 4294967295) * (shr y2 32))))), .int .u64 (shr (u64 ((u64 ((shr x1 32) * (Go.bits .and .u64 y2 4294967295))) + (shr (u64 ((Go.bits .and .u64 x1 4294967295) * (Go.bits .and .u64 y2 4294967295))) 32))) 32), .int .u64 x1, .int .u64 (Go.bits .and .u64 x1 4294967295), .int .u64 x1, .int .u64 (shr x1 32), .int .u64 y2, .int .u64 (Go.bits .and .u64 y2 4294967295), .int .u64 y2, .int .u64 (shr y2 32), .int .u64 (Go.bits .and .u64 x1 4294967295), .int .u64 (Go.bits .and .u64 y2 4294967295), .int .u64 (u64 ((Go.bits .and .u64 x1 4294967295) * (Go.bits .and .u64 y2 4294967295))), .int .u64 (shr x1 32), .int .u64 (Go.bits .and .u64 y2 4294967295), .int .u64 (u64 ((shr x1 32) * (Go.bits .and .u64 y2 4294967295))), .int .u64 (u64 ((Go.bits .and .u64 x1 4294967295) * (Go.bits .and .u64 y2 4294967295))), .int .u64 (shr (u64 ((Go.bits .and .u64 x1 4294967295) * (Go.bits .and .u64 y2 4294967295))) 32), .int .u64 (u64 ((u64 ((shr x1 32) * (Go.bits .and .u64 y2 4294967295))) + (shr (u64 ((Go.bits .and .u64 x1 4294967295) * (Go.bits .and .u64 y2 4294967295))) 32))), .int .u64 (u64 ((u64 ((shr x1 32) * (Go.bits .and .u64 y2 4294967295))) + (shr (u64 ((Go.bits .and .u64 x1 4294967295) * (Go.bits .and .u64 y2 4294967295))) 32))), .int .u64 (Go.bits .and .u64 (u64 ((u64 ((shr x1 32) * (Go.bits .and .u64 y2 4294967295))) + (shr (u64 ((Go.bits .and .u64 x1 4294967295) * (Go.bits .and .u64 y2 4294967295))) 32))) 4294967295), .int .u64 (u64 ((u64 ((shr x1 32) * (Go.bits .and .u64 y2 4294967295))) + (shr (u64 ((Go.bits .and .u64 x1 4294967295) * (Go.bits .and .u64 y2 4294967295))) 32))), .int .u64 (shr (u64 ((u64 ((shr x1 32) * (Go.bits .and .u64 y2 4294967295))) + (shr (u64 ((Go.bits .and .u64 x1 4294967295) * (Go.bits .and .u64 y2 4294967295))) 32))) 32), .int .u64 (Go.bits .and .u64 (u64 ((u64 ((shr x1 32) * (Go.bits .and .u64 y2 4294967295))) + (shr (u64 ((Go.bits .and .u64 x1 4294967295) * (Go.bits .and .u64 y2 4294967295))) 32))) 4294967295), .int .u64 (Go.bits .and .u64 x1 4294967295), .int .u64 (shr y2 32), .int .u64 (u64 ((Go.bits .and .u64 x1 4294967295) * (shr y2 32))), .int .u64 (u64 ((Go.bits .and .u64 (u64 ((u64 ((shr x1 32) * (Go.bits .and .u64 y2 4294967295))) + (shr (u64 ((Go.bits .and .u64 x1 4294967295) * (Go.bits .and .u64 y2 4294967295))) 32))) 4294967295) + (u64 ((Go.bits .and .u64 x1 4294967295) * (shr y2 32))))), .int .u64 (shr x1 32), .int .u64 (shr y2 32), .int .u64 (u64 ((shr x1 32) * (shr y2 32))), .int .u64 (shr (u64 ((u64 ((shr x1 32) * (Go.bits .and .u64 y2 4294967295))) + (shr (u64 ((Go.bits .and .u64 x1 4294967295) * (Go.bits .and .u64 y2 4294967295))) 32))) 32), .int .u64 (u64 ((u64 ((shr x1 32) * (shr y2 32))) + (shr (u64 ((u64 ((shr x1 32) * (Go.bits .and .u64 y2 4294967295))) + (shr (u64 ((Go.bits .and .u64 x1 4294967295) * (Go.bits .and .u64 y2 4294967295))) 32))) 32))), .int .u64 (u64 ((Go.bits .and .u64 (u64 ((u64 ((shr x1 32) * (Go.bits .and .u64 y2 4294967295))) + (shr (u64 ((Go.bits .and .u64 x1 4294967295) * (Go.bits .and .u64 y2 4294967295))) 32))) 4294967295) + (u64 ((Go.bits .and .u64 x1 4294967295) * (shr y2 32))))), .int .u64 (shr (u64 ((Go.bits .and .u64 (u64 ((u64 ((shr x1 32) * (Go.bits .and .u64 y2 4294967295))) + (shr (u64 ((Go.bits .and .u64 x1 4294967295) * (Go.bits .and .u64 y2 4294967295))) 32))) 4294967295) + (u64 ((Go.bits .and .u64 x1 4294967295) * (shr y2 32))))) 32), .int .u64 (u64 ((u64 ((u64 ((shr x1 32) * (shr y2 32))) + (shr (u64 ((u64 ((shr x1 32) * (Go.bits .and .u64 y2 4294967295))) + (shr (u64 ((Go.bits .and .u64 x1 4294967295) * (Go.bits .and .u64 y2 4294967295))) 32))) 32))) + (shr (u64 ((Go.bits .and .u64 (u64 ((u64 ((shr x1 32) * (Go.bits .and .u64 y2 4294967295))) + (shr (u64 ((Go.bits .and .u64 x1 4294967295) * (Go.bits .and .u64 y2 4294967295))) 32))) 4294967295) + (u64 ((Go.bits .and .u64 x1 4294967295) * (shr y2 32))))) 32))), .int .u64 x1, .int .u64 y2, .int .u64 (u64 (x1 * y2))], []⟩) (by kernel_rfl) ?_
  refine wpList_nil ?_
  refine hK26 _ _ ?_
  refine wp_ret ?_
  refine hret _ _ ?_
  refine ends_still (v := Value.tuple #[.int .u64 (u64 ((u64 ((u64 ((shr x1 32) * (shr y2 32))) + (shr (u64 ((u64 ((shr x1 32) * (Go.bits .and .u64 y2 4294967295))) + (shr (u64 ((Go.bits .and .u64 x1 4294967295) * (Go.bits .and .u64 y2 4294967295))) 32))) 32))) + (shr (u64 ((Go.bits .and .u64 (u64 ((u64 ((shr x1 32) * (Go.bits .and .u64 y2 4294967295))) + (shr (u64 ((Go.bits .and .u64 x1 4294967295) * (Go.bits .and .u64 y2 4294967295))) 32))) 4294967295) + (u64 ((Go.bits .and .u64 x1 4294967295) * (shr y2 32))))) 32))), .int .u64 (u64 (x1 * y2))]) (by kernel_rfl) (by kernel_rfl) ?_
  injection h with h
  injection h with h0_ h
  subst h0_ h
  exact ⟨f, rfl, FM.le.refl _, HS⟩

set_option maxRecDepth 100000 in
set_option maxHeartbeats 4000000 in
theorem num_Wide_Neg.calls (k : Nat)  (vw1 : S_Wide) {t w : World} {f : FM} {H : List Seg} (HS : St t w f (H)) (r1 : S_Wide) (h : num_Wide_Neg k vw1 = some r1) :
    Calls Try.prog 113 #[.agg #[.int .i64 vw1.Hi, .int .u64 vw1.Lo]] w (fun e w' => ∃ (g : FM), e = .returned (Value.agg #[.int .i64 r1.Hi, .int .u64 r1.Lo]) ∧ FM.le f g ∧ St t w' g (H)) := by
  unfold num_Wide_Neg at h
  refine enter Try.func113 rfl (tm := #[.agg #[.int .i64 vw1.Hi, .int .u64 vw1.Lo], undef, undef, undef, undef, undef, undef, undef, undef, undef, undef, undef, undef, undef, undef, undef, undef, undef, undef, undef, undef, undef, undef, undef, undef, undef, undef]) (by kernel_rfl) ?_
  intro B hret hnor hnp
  refine wp_seq_k (fun K2 hK3 => ?_)
  refine wp_region_lit ?_
  refine seqK rfl (does_box (cs := #[.int .i64 vw1.Hi, .int .u64 vw1.Lo]) rfl (by kernel_rfl : _ = Value.agg #[.int .i64 vw1.Hi, .int .u64 vw1.Lo]) rfl HS ?_)
  intro b4 W5 HS6
  refine seqK rfl (does_alloc (z := Value.agg #[.int .i64 0, .int .u64 0]) (cs := #[.int .i64 0, .int .u64 0]) rfl (by kernel_rfl) rfl HS6 ?_)
  intro b8 W9 HS10
  refine wpList_nil ?_
  refine hK3 _ _ ?_
  refine wp_seq_k (fun K12 hK13 => ?_)
  refine wp_region_lit ?_
  refine seqL1 (by kernel_rfl) ?_
  refine seqK rfl (does_run (run_load rfl Try.underlying61 rfl (by kernel_rfl : _ = Value.pointer (some ⟨b4, 1, none⟩)) (HS10.u1.cell 1)) ?_)
  have hq_ := guard_some h; clear h; obtain ⟨c14, h⟩ := hq_
  have c14 : 0 ≤ (Go.bits .xor .u64 IntKind.u64.max vw1.Lo) := c14
  refine seqL1 (by kernel_rfl) ?_
  refine seqK rfl (does_run (run_add64op (x := Go.bits .xor .u64 IntKind.u64.max vw1.Lo) (y := 1) (c := 0) (by kernel_rfl) Try.func132 (by kernel_rfl) (by kernel_rfl) (by kernel_rfl) (by kernel_rfl) c14 (by decide) (by decide) (by decide) W9) ?_)
  refine seqS5 (a' := ⟨#[.agg #[.int .i64 vw1.Hi, .int .u64 vw1.Lo], .pointer (some ⟨b4, 0, none⟩), .pointer (some ⟨b8, 0, none⟩), .int .u64 (((Go.bits .xor .u64 IntKind.u64.max vw1.Lo) + 1 + 0) % 18446744073709551616), .int .u64 (((Go.bits .xor .u64 IntKind.u64.max vw1.Lo) + 1 + 0) / 18446744073709551616), undef, undef, .tuple #[.int .u64 (((Go.bits .xor .u64 IntKind.u64.max vw1.Lo) + 1 + 0) % 18446744073709551616), .int .u64 (((Go.bits .xor .u64 IntKind.u64.max vw1.Lo) + 1 + 0) / 18446744073709551616)], .pointer (some ⟨b4, 1, none⟩), .int .u64 vw1.Lo, .int .u64 (Go.bits .xor .u64 IntKind.u64.max vw1.Lo), .tuple #[.int .u64 (((Go.bits .xor .u64 IntKind.u64.max vw1.Lo) + 1 + 0) % 18446744073709551616), .int .u64 (((Go.bits .xor .u64 IntKind.u64.max vw1.Lo) + 1 + 0) / 18446744073709551616)], .int .u64 (((Go.bits .xor .u64 IntKind.u64.max vw1.Lo) + 1 + 0) % 18446744073709551616), .int .u64 (((Go.bits .xor .u64 IntKind.u64.max vw1.Lo) + 1 + 0) / 18446744073709551616), undef, undef, undef, undef, undef, undef, undef, undef, undef, undef, undef, undef, undef], []⟩) (by kernel_rfl) ?_
  refine wpList_nil ?_
  refine hK13 _ _ ?_
  refine wp_seq_k (fun K15 hK16 => ?_)
  refine wp_region_lit ?_
  refine seqL1 (by kernel_rfl) ?_
  refine seqK rfl (does_run (run_load rfl Try.underlying2 rfl (by kernel_rfl : _ = Value.pointer (some ⟨b4, 0, none⟩)) (HS10.u1.cell 0)) ?_)
  have hq_ := guard_some h; clear h; obtain ⟨c17, h⟩ := hq_
  have c17 : 0 ≤ (Go.bits .xor .u64 IntKind.u64.max (u64 (vw1.Hi))) := c17
  have hq_ := guard_some h; clear h; obtain ⟨c18, h⟩ := hq_
  have c18 : 0 ≤ (((Go.bits .xor .u64 IntKind.u64.max vw1.Lo) + 1 + 0) / 18446744073709551616) := c18
  have hq_ := guard_some h; clear h; obtain ⟨c19, h⟩ := hq_
  have c19 : (((Go.bits .xor .u64 IntKind.u64.max vw1.Lo) + 1 + 0) / 18446744073709551616) ≤ 1 := c19
  refine seqL3 (by kernel_rfl) ?_
  refine seqK rfl (does_run (run_add64op (x := Go.bits .xor .u64 IntKind.u64.max (u64 (vw1.Hi))) (y := 0) (c := ((Go.bits .xor .u64 IntKind.u64.max vw1.Lo) + 1 + 0) / 18446744073709551616) (by kernel_rfl) Try.func132 (by kernel_rfl) (by kernel_rfl) (by kernel_rfl) (by kernel_rfl) c17 (by decide) c18 c19 W9) ?_)
  refine seqS5 (a' := ⟨#[.agg #[.int .i64 vw1.Hi, .int .u64 vw1.Lo], .pointer (some ⟨b4, 0, none⟩), .pointer (some ⟨b8, 0, none⟩), .int .u64 (((Go.bits .xor .u64 IntKind.u64.max vw1.Lo) + 1 + 0) % 18446744073709551616), .int .u64 (((Go.bits .xor .u64 IntKind.u64.max vw1.Lo) + 1 + 0) / 18446744073709551616), .int .u64 (((Go.bits .xor .u64 IntKind.u64.max (u64 (vw1.Hi))) + 0 + (((Go.bits .xor .u64 IntKind.u64.max vw1.Lo) + 1 + 0) / 18446744073709551616)) % 18446744073709551616), .int .u64 (((Go.bits .xor .u64 IntKind.u64.max (u64 (vw1.Hi))) + 0 + (((Go.bits .xor .u64 IntKind.u64.max vw1.Lo) + 1 + 0) / 18446744073709551616)) / 18446744073709551616), .tuple #[.int .u64 (((Go.bits .xor .u64 IntKind.u64.max vw1.Lo) + 1 + 0) % 18446744073709551616), .int .u64 (((Go.bits .xor .u64 IntKind.u64.max vw1.Lo) + 1 + 0) / 18446744073709551616)], .pointer (some ⟨b4, 1, none⟩), .int .u64 vw1.Lo, .int .u64 (Go.bits .xor .u64 IntKind.u64.max vw1.Lo), .tuple #[.int .u64 (((Go.bits .xor .u64 IntKind.u64.max vw1.Lo) + 1 + 0) % 18446744073709551616), .int .u64 (((Go.bits .xor .u64 IntKind.u64.max vw1.Lo) + 1 + 0) / 18446744073709551616)], .int .u64 (((Go.bits .xor .u64 IntKind.u64.max vw1.Lo) + 1 + 0) % 18446744073709551616), .int .u64 (((Go.bits .xor .u64 IntKind.u64.max vw1.Lo) + 1 + 0) / 18446744073709551616), .tuple #[.int .u64 (((Go.bits .xor .u64 IntKind.u64.max (u64 (vw1.Hi))) + 0 + (((Go.bits .xor .u64 IntKind.u64.max vw1.Lo) + 1 + 0) / 18446744073709551616)) % 18446744073709551616), .int .u64 (((Go.bits .xor .u64 IntKind.u64.max (u64 (vw1.Hi))) + 0 + (((Go.bits .xor .u64 IntKind.u64.max vw1.Lo) + 1 + 0) / 18446744073709551616)) / 18446744073709551616)], .pointer (some ⟨b4, 0, none⟩), .int .i64 vw1.Hi, .int .u64 (u64 (vw1.Hi)), .int .u64 (Go.bits .xor .u64 IntKind.u64.max (u64 (vw1.Hi))), .int .u64 (((Go.bits .xor .u64 IntKind.u64.max vw1.Lo) + 1 + 0) / 18446744073709551616), .tuple #[.int .u64 (((Go.bits .xor .u64 IntKind.u64.max (u64 (vw1.Hi))) + 0 + (((Go.bits .xor .u64 IntKind.u64.max vw1.Lo) + 1 + 0) / 18446744073709551616)) % 18446744073709551616), .int .u64 (((Go.bits .xor .u64 IntKind.u64.max (u64 (vw1.Hi))) + 0 + (((Go.bits .xor .u64 IntKind.u64.max vw1.Lo) + 1 + 0) / 18446744073709551616)) / 18446744073709551616)], .int .u64 (((Go.bits .xor .u64 IntKind.u64.max (u64 (vw1.Hi))) + 0 + (((Go.bits .xor .u64 IntKind.u64.max vw1.Lo) + 1 + 0) / 18446744073709551616)) % 18446744073709551616), .int .u64 (((Go.bits .xor .u64 IntKind.u64.max (u64 (vw1.Hi))) + 0 + (((Go.bits .xor .u64 IntKind.u64.max vw1.Lo) + 1 + 0) / 18446744073709551616)) / 18446744073709551616), undef, undef, undef, undef], []⟩) (by kernel_rfl) ?_
  refine wpList_nil ?_
  refine hK16 _ _ ?_
  refine wp_seq_k (fun K20 hK21 => ?_)
  refine wp_region_lit ?_
  refine seqL4 (by kernel_rfl) ?_
  refine seqK rfl (does_store (n := 2) (vs := [.int .i64 (w64 (((Go.bits .xor .u64 IntKind.u64.max (u64 (vw1.Hi))) + 0 + (((Go.bits .xor .u64 IntKind.u64.max vw1.Lo) + 1 + 0) / 18446744073709551616)) % 18446744073709551616)), .int .u64 (((Go.bits .xor .u64 IntKind.u64.max vw1.Lo) + 1 + 0) % 18446744073709551616)]) (cs' := #[.int .i64 (w64 (((Go.bits .xor .u64 IntKind.u64.max (u64 (vw1.Hi))) + 0 + (((Go.bits .xor .u64 IntKind.u64.max vw1.Lo) + 1 + 0) / 18446744073709551616)) % 18446744073709551616)), .int .u64 (((Go.bits .xor .u64 IntKind.u64.max vw1.Lo) + 1 + 0) % 18446744073709551616)]) rfl (by kernel_rfl) (by kernel_rfl : _ = Value.pointer (some ⟨b8, 0, none⟩)) (by kernel_rfl : _ = Value.agg #[.int .i64 (w64 (((Go.bits .xor .u64 IntKind.u64.max (u64 (vw1.Hi))) + 0 + (((Go.bits .xor .u64 IntKind.u64.max vw1.Lo) + 1 + 0) / 18446744073709551616)) % 18446744073709551616)), .int .u64 (((Go.bits .xor .u64 IntKind.u64.max vw1.Lo) + 1 + 0) % 18446744073709551616)]) rfl rfl (by intro u_ hu_; simp only [List.mem_cons, List.not_mem_nil, or_false] at hu_; rcases hu_ with rfl | rfl <;> rfl) HS10 (Nat.le_of_ble_eq_true rfl) (by kernel_rfl) ?_)
  intro W22 HS23
  refine wpList_nil ?_
  refine hK21 _ _ ?_
  refine wp_ret ?_
  refine hret _ _ ?_
  refine ends (v := Value.agg #[.int .i64 (w64 (((Go.bits .xor .u64 IntKind.u64.max (u64 (vw1.Hi))) + 0 + (((Go.bits .xor .u64 IntKind.u64.max vw1.Lo) + 1 + 0) / 18446744073709551616)) % 18446744073709551616)), .int .u64 (((Go.bits .xor .u64 IntKind.u64.max vw1.Lo) + 1 + 0) % 18446744073709551616)]) (results1 (q1 := .cell 2 126) (by kernel_rfl) (resN (n := 2) (cs := [.int .i64 (w64 (((Go.bits .xor .u64 IntKind.u64.max (u64 (vw1.Hi))) + 0 + (((Go.bits .xor .u64 IntKind.u64.max vw1.Lo) + 1 + 0) / 18446744073709551616)) % 18446744073709551616)), .int .u64 (((Go.bits .xor .u64 IntKind.u64.max vw1.Lo) + 1 + 0) % 18446744073709551616)]) (by kernel_rfl : _ = Value.pointer (some ⟨b8, 0, none⟩)) Try.underlying126 rfl (by kernel_rfl) rfl (HS23.cells 0 2 _ rfl))) (by kernel_rfl) ?_
  have HS24 := HS23.drop
  have HS25 := HS24.drop
  injection h with h
  subst h
  exact ⟨f, rfl, FM.le.refl _, HS25⟩

set_option maxRecDepth 100000 in
set_option maxHeartbeats 4000000 in
theorem num_Product.calls (k : Nat)  (a1 : Int) (b2 : Int) {t w : World} {f : FM} {H : List Seg} (HS : St t w f (H)) (r1 : S_Wide) (h : num_Product k a1 b2 = some r1) :
    Calls Try.prog 90 #[.int .i64 a1, .int .i64 b2] w (fun e w' => ∃ (g : FM), e = .returned (Value.agg #[.int .i64 r1.Hi, .int .u64 r1.Lo]) ∧ FM.le f g ∧ St t w' g (H)) := by
  unfold num_Product at h
  refine enter Try.func90 rfl (tm := #[.int .i64 a1, .int .i64 b2, undef, undef, undef, undef, undef, undef, undef, undef, undef, undef, undef, undef, undef, undef, undef, undef, undef, undef, undef, undef, undef, undef, undef, undef, undef, undef]) (by kernel_rfl) ?_
  intro B hret hnor hnp
  refine wp_seq_k (fun K3 hK4 => ?_)
  refine wp_region_lit ?_
  refine seqK rfl (does_alloc (z := Value.agg #[.int .i64 0, .int .u64 0]) (cs := #[.int .i64 0, .int .u64 0]) rfl (by kernel_rfl) rfl HS ?_)
  intro b5 W6 HS7
  refine wpList_nil ?_
  refine hK4 _ _ ?_
  refine wp_seq_k (fun K9 hK10 => ?_)
  refine wp_region_lit ?_
  have hq_ := bind_some h; clear h; obtain ⟨vt11, hc12, h⟩ := hq_
  refine seqL1 (by kernel_rfl) ?_
  refine seqK rfl (does_call (f := 112) (args := #[.int .i64 a1]) (by kernel_rfl) (num_size.calls k a1 HS7 vt11 hc12) ?_)
  rintro _ W15 ⟨f13, rfl, L14, HS16⟩
  refine ⟨_, rfl, ?_⟩
  have hq_ := bind_some h; clear h; obtain ⟨vt17, hc18, h⟩ := hq_
  refine seqL1 (by kernel_rfl) ?_
  refine seqK rfl (does_call (f := 112) (args := #[.int .i64 b2]) (by kernel_rfl) (num_size.calls k b2 HS16 vt17 hc18) ?_)
  rintro _ W21 ⟨f19, rfl, L20, HS22⟩
  refine ⟨_, rfl, ?_⟩
  have hq_ := bind_some h; clear h; obtain ⟨⟨vt23, vt24⟩, hc25, h⟩ := hq_
  refine seqK rfl (does_call (f := 97) (args := #[.int .u64 vt11, .int .u64 vt17]) (by kernel_rfl) (bits_Mul64.calls k vt11 vt17 HS22 vt23 vt24 hc25) ?_)
  rintro _ W28 ⟨f26, rfl, L27, HS29⟩
  refine ⟨_, rfl, ?_⟩
  refine seqS5 (a' := ⟨#[.int .i64 a1, .int .i64 b2, undef, undef, .pointer (some ⟨b5, 0, none⟩), .int .u64 vt23, .int .u64 vt24, undef, .tuple #[.int .u64 vt23, .int .u64 vt24], .int .i64 a1, .int .u64 vt11, .int .i64 b2, .int .u64 vt17, .tuple #[.int .u64 vt23, .int .u64 vt24], .int .u64 vt23, .int .u64 vt24, undef, undef, undef, undef, undef, undef, undef, undef, undef, undef, undef, undef], []⟩) (by kernel_rfl) ?_
  refine wpList_nil ?_
  refine hK10 _ _ ?_
  refine wp_seq_k (fun K30 hK31 => ?_)
  refine wp_region_lit ?_
  refine seqL4 (by kernel_rfl) ?_
  refine seqK rfl (does_alloc (z := Value.agg #[.int .i64 0, .int .u64 0]) (cs := #[.int .i64 0, .int .u64 0]) rfl (by kernel_rfl) rfl HS29 ?_)
  intro b32 W33 HS34
  refine seqK rfl (does_store (n := 2) (vs := [.int .i64 (w64 (vt23)), .int .u64 vt24]) (cs' := #[.int .i64 (w64 (vt23)), .int .u64 vt24]) rfl (by kernel_rfl) (by kernel_rfl : _ = Value.pointer (some ⟨b32, 0, none⟩)) (by kernel_rfl : _ = Value.agg #[.int .i64 (w64 (vt23)), .int .u64 vt24]) rfl rfl (by intro u_ hu_; simp only [List.mem_cons, List.not_mem_nil, or_false] at hu_; rcases hu_ with rfl | rfl <;> rfl) HS34 (Nat.le_of_ble_eq_true rfl) (by kernel_rfl) ?_)
  intro W36 HS37
  refine wpList_nil ?_
  refine hK31 _ _ ?_
  refine wp_seq_k (fun K38 hK39 => ?_)
  refine wp_seq_k (fun K40 hK41 => ?_)
  refine wp_region_lit ?_
  refine seqS5 (a' := ⟨#[.int .i64 a1, .int .i64 b2, undef, undef, .pointer (some ⟨b5, 0, none⟩), .int .u64 vt23, .int .u64 vt24, .pointer (some ⟨b32, 0, none⟩), .tuple #[.int .u64 vt23, .int .u64 vt24], .int .i64 a1, .int .u64 vt11, .int .i64 b2, .int .u64 vt17, .tuple #[.int .u64 vt23, .int .u64 vt24], .int .u64 vt23, .int .u64 vt24, .int .u64 vt23, .int .i64 (w64 (vt23)), .int .u64 vt24, .agg #[.int .i64 (w64 (vt23)), .int .u64 vt24], .int .i64 a1, .bool (decide (a1 < 0)), .int .i64 b2, .bool (decide (b2 < 0)), .bool ((decide (a1 < 0)) != (decide (b2 < 0))), undef, undef, undef], []⟩) (by kernel_rfl) ?_
  refine wpList_nil ?_
  refine hK41 _ _ ?_
  have hq_ := ite_some h; clear h; rcases hq_ with ⟨c43, h⟩ | ⟨c43, h⟩
  · have c43 : ((decide (a1 < 0)) != (decide (b2 < 0))) = true := c43
    refine wpRwI 24 (x := ((decide (a1 < 0)) != (decide (b2 < 0)))) (v := true) (by kernel_rfl) c43 ?_
    refine condT (by kernel_rfl) ?_
    refine wp_seq_k (fun K44 hK45 => ?_)
    refine wp_region_lit ?_
    refine seqK rfl (does_run (run_loadN (n := 2) rfl Try.underlying126 rfl (by kernel_rfl) (by kernel_rfl : _ = Value.pointer (some ⟨b32, 0, none⟩)) (cs := [.int .i64 (w64 (vt23)), .int .u64 vt24]) rfl (HS37.cells 0 2 _ rfl)) ?_)
    have hq_ := bind_some h; clear h; obtain ⟨vt46, hc47, h⟩ := hq_
    refine seqK rfl (does_call (f := 113) (args := #[.agg #[.int .i64 (w64 (vt23)), .int .u64 vt24]]) (by kernel_rfl) (num_Wide_Neg.calls k (⟨w64 (vt23), vt24⟩ : S_Wide) HS37 vt46 hc47) ?_)
    rintro _ W50 ⟨f48, rfl, L49, HS51⟩
    refine ⟨_, rfl, ?_⟩
    have HS52 := HS51.u1
    refine seqK rfl (does_store (n := 2) (vs := [.int .i64 vt46.Hi, .int .u64 vt46.Lo]) (cs' := #[.int .i64 vt46.Hi, .int .u64 vt46.Lo]) rfl (by kernel_rfl) (by kernel_rfl : _ = Value.pointer (some ⟨b5, 0, none⟩)) (by kernel_rfl : _ = Value.agg #[.int .i64 vt46.Hi, .int .u64 vt46.Lo]) rfl rfl (by intro u_ hu_; simp only [List.mem_cons, List.not_mem_nil, or_false] at hu_; rcases hu_ with rfl | rfl <;> rfl) HS52 (Nat.le_of_ble_eq_true rfl) (by kernel_rfl) ?_)
    intro W53 HS54
    refine wpList_nil ?_
    refine hK45 _ _ ?_
    refine wp_ret ?_
    refine hret _ _ ?_
    refine ends (v := Value.agg #[.int .i64 vt46.Hi, .int .u64 vt46.Lo]) (results1 (q1 := .cell 4 126) (by kernel_rfl) (resN (n := 2) (cs := [.int .i64 vt46.Hi, .int .u64 vt46.Lo]) (by kernel_rfl : _ = Value.pointer (some ⟨b5, 0, none⟩)) Try.underlying126 rfl (by kernel_rfl) rfl (HS54.cells 0 2 _ rfl))) (by kernel_rfl) ?_
    have HS60 := HS54.drop
    have HS61 := HS60.drop
    injection h with h
    subst h
    exact ⟨f48, rfl, (L14.trans (L20.trans (L27.trans L49))), HS61⟩
  · have c43 : ¬ (((decide (a1 < 0)) != (decide (b2 < 0))) = true) := c43
    refine wpRwI 24 (x := ((decide (a1 < 0)) != (decide (b2 < 0)))) (v := false) (by kernel_rfl) (Bool.eq_false_iff.mpr c43) ?_
    refine condF (by kernel_rfl) ?_
    refine wp_skip ?_
    refine hK39 _ _ ?_
    refine wp_seq_k (fun K55 hK56 => ?_)
    refine wp_region_lit ?_
    refine seqK rfl (does_run (run_loadN (n := 2) rfl Try.underlying126 rfl (by kernel_rfl) (by kernel_rfl : _ = Value.pointer (some ⟨b32, 0, none⟩)) (cs := [.int .i64 (w64 (vt23)), .int .u64 vt24]) rfl (HS37.cells 0 2 _ rfl)) ?_)
    have HS57 := HS37.u1
    refine seqK rfl (does_store (n := 2) (vs := [.int .i64 (w64 (vt23)), .int .u64 vt24]) (cs' := #[.int .i64 (w64 (vt23)), .int .u64 vt24]) rfl (by kernel_rfl) (by kernel_rfl : _ = Value.pointer (some ⟨b5, 0, none⟩)) (by kernel_rfl : _ = Value.agg #[.int .i64 (w64 (vt23)), .int .u64 vt24]) rfl rfl (by intro u_ hu_; simp only [List.mem_cons, List.not_mem_nil, or_false] at hu_; rcases hu_ with rfl | rfl <;> rfl) HS57 (Nat.le_of_ble_eq_true rfl) (by kernel_rfl) ?_)
    intro W58 HS59
    refine wpList_nil ?_
    refine hK56 _ _ ?_
    refine wp_ret ?_
    refine hret _ _ ?_
    refine ends (v := Value.agg #[.int .i64 (w64 (vt23)), .int .u64 vt24]) (results1 (q1 := .cell 4 126) (by kernel_rfl) (resN (n := 2) (cs := [.int .i64 (w64 (vt23)), .int .u64 vt24]) (by kernel_rfl : _ = Value.pointer (some ⟨b5, 0, none⟩)) Try.underlying126 rfl (by kernel_rfl) rfl (HS59.cells 0 2 _ rfl))) (by kernel_rfl) ?_
    have HS62 := HS59.drop
    have HS63 := HS62.drop
    injection h with h
    subst h
    exact ⟨f26, rfl, (L14.trans (L20.trans L27)), HS63⟩

set_option maxRecDepth 100000 in
set_option maxHeartbeats 4000000 in
theorem bits_Len64.calls (k : Nat)  (x1 : Int) {t w : World} {f : FM} {H : List Seg} (HS : St t w f (H)) (r1 : Int) (h : bits_Len64 k x1 = some r1) :
    Calls Try.prog 129 #[.int .u64 x1] w (fun e w' => ∃ (g : FM), e = .returned (Value.int .i64 r1) ∧ FM.le f g ∧ St t w' g (H)) := by
  unfold bits_Len64 at h
  refine enter Try.func129 rfl (tm := #[.int .u64 x1, undef, undef, undef, undef, undef, undef, undef, undef, undef, undef, undef, undef, undef, undef, undef, undef, undef, undef, undef, undef, undef, undef, undef, undef]) (by kernel_rfl) ?_
  intro B hret hnor hnp
  refine wp_seq_k (fun K2 hK3 => ?_)
  refine wp_region_lit ?_
  refine seqS1 (a' := ⟨#[.int .u64 x1, undef, .int .i64 0, undef, undef, undef, undef, undef, undef, undef, undef, undef, undef, undef, undef, undef, undef, undef, undef, undef, undef, undef, undef, undef, undef], []⟩) (by kernel_rfl) ?_
  refine wpList_nil ?_
  refine hK3 _ _ ?_
  refine wp_seq_k (fun K4 hK5 => ?_)
  refine wp_seq_k (fun K6 hK7 => ?_)
  refine wp_region_lit ?_
  refine seqS2 (a' := ⟨#[.int .u64 x1, undef, .int .i64 0, .int .u64 x1, .bool (decide (x1 ≥ 4294967296)), undef, undef, undef, undef, undef, undef, undef, undef, undef, undef, undef, undef, undef, undef, undef, undef, undef, undef, undef, undef], []⟩) (by kernel_rfl) ?_
  refine wpList_nil ?_
  refine hK7 _ _ ?_
  have hq_ := bind_some h; clear h; obtain ⟨v8, hv19, h⟩ := hq_
  have J20 : ∀ (f12 : FM) (x17 : Int) (n18 : Int) (j16 : Nat → Value) (W14 : World) (a_ : Act), FM.le f f12 → some ((x17, n18)) = some v8 → St t W14 f12 (H) → a_ = ⟨#[.int .u64 x17, undef, .int .i64 n18, .int .u64 x1, (j16 0), (j16 1), (j16 2), undef, undef, undef, undef, undef, undef, undef, undef, undef, undef, undef, undef, undef, undef, undef, undef, undef, undef], []⟩ → K4 a_ W14 := by
    intro f12 x17 n18 j16 W14 a_ L13 hj21 HS15  hfr_; subst hfr_
    injection hj21 with hj21; subst hj21; try dsimp only at h
    refine hK5 _ _ ?_
    refine wp_seq_k (fun K22 hK23 => ?_)
    refine wp_seq_k (fun K24 hK25 => ?_)
    refine wp_region_lit ?_
    refine seqS2 (a' := ⟨#[.int .u64 x17, undef, .int .i64 n18, .int .u64 x1, (j16 0), (j16 1), (j16 2), .int .u64 x17, .bool (decide (x17 ≥ 65536)), undef, undef, undef, undef, undef, undef, undef, undef, undef, undef, undef, undef, undef, undef, undef, undef], []⟩) (by kernel_rfl) ?_
    refine wpList_nil ?_
    refine hK25 _ _ ?_
    have hq_ := bind_some h; clear h; obtain ⟨v26, hv37, h⟩ := hq_
    have J38 : ∀ (f30 : FM) (x35 : Int) (n36 : Int) (j34 : Nat → Value) (W32 : World) (a_ : Act), FM.le f12 f30 → some ((x35, n36)) = some v26 → St t W32 f30 (H) → a_ = ⟨#[.int .u64 x35, undef, .int .i64 n36, .int .u64 x1, (j16 0), (j16 1), (j16 2), .int .u64 x17, (j34 0), (j34 1), (j34 2), (j34 3), (j34 4), undef, undef, undef, undef, undef, undef, undef, undef, undef, undef, undef, undef], []⟩ → K22 a_ W32 := by
      intro f30 x35 n36 j34 W32 a_ L31 hj39 HS33  hfr_; subst hfr_
      injection hj39 with hj39; subst hj39; try dsimp only at h
      refine hK23 _ _ ?_
      refine wp_seq_k (fun K40 hK41 => ?_)
      refine wp_seq_k (fun K42 hK43 => ?_)
      refine wp_region_lit ?_
      refine seqS2 (a' := ⟨#[.int .u64 x35, undef, .int .i64 n36, .int .u64 x1, (j16 0), (j16 1), (j16 2), .int .u64 x17, (j34 0), (j34 1), (j34 2), (j34 3), (j34 4), .int .u64 x35, .bool (decide (x35 ≥ 256)), undef, undef, undef, undef, undef, undef, undef, undef, undef, undef], []⟩) (by kernel_rfl) ?_
      refine wpList_nil ?_
      refine hK43 _ _ ?_
      have hq_ := ite_some h; clear h; rcases hq_ with ⟨c45, h⟩ | ⟨c45, h⟩
      · have c45 : x35 ≥ 256 := c45
        refine wpRwI 14 (x := (decide (x35 ≥ 256))) (v := true) (by kernel_rfl) (decide_eq_true c45) ?_
        refine condT (by kernel_rfl) ?_
        refine wp_seq_k (fun K46 hK47 => ?_)
        refine wp_region_lit ?_
        refine seqS3 (a' := ⟨#[.int .u64 (shr x35 8), undef, .int .i64 n36, .int .u64 x1, (j16 0), (j16 1), (j16 2), .int .u64 x17, (j34 0), (j34 1), (j34 2), (j34 3), (j34 4), .int .u64 x35, .bool true, .int .u64 x35, .int .u64 (shr x35 8), undef, undef, undef, undef, undef, undef, undef, undef], []⟩) (by kernel_rfl) ?_
        refine wpList_nil ?_
        refine hK47 _ _ ?_
        refine wp_region_lit ?_
        refine seqS3 (a' := ⟨#[.int .u64 (shr x35 8), undef, .int .i64 (w64 (n36 + 8)), .int .u64 x1, (j16 0), (j16 1), (j16 2), .int .u64 x17, (j34 0), (j34 1), (j34 2), (j34 3), (j34 4), .int .u64 x35, .bool true, .int .u64 x35, .int .u64 (shr x35 8), .int .i64 n36, .int .i64 (w64 (n36 + 8)), undef, undef, undef, undef, undef, undef], []⟩) (by kernel_rfl) ?_
        refine wpList_nil ?_
        refine hK41 _ _ ?_
        refine wp_seq_k (fun K48 hK49 => ?_)
        refine wp_region_lit ?_
        have hq_ := guard_some h; clear h; obtain ⟨c50, h⟩ := hq_
        have c50 : 0 ≤ (u8 (shr x35 8)) := c50
        have hq_ := guard_some h; clear h; obtain ⟨c51, h⟩ := hq_
        have c51 : (u8 (shr x35 8)) < (str0.size : Int) := c51
        refine seqL3 (by kernel_rfl) ?_
        refine seqK rfl (does_run (run_byte rfl Try.underlying9 (by kernel_rfl : _ = Value.string str0) (by kernel_rfl : _ = Value.int .u8 (u8 (shr x35 8))) c50 c51 W32) ?_)
        refine seqS3 (a' := ⟨#[.int .u64 (shr x35 8), undef, .int .i64 (w64 ((w64 (n36 + 8)) + (w64 ((bt str0 (u8 (shr x35 8))))))), .int .u64 x1, (j16 0), (j16 1), (j16 2), .int .u64 x17, (j34 0), (j34 1), (j34 2), (j34 3), (j34 4), .int .u64 x35, .bool true, .int .u64 x35, .int .u64 (shr x35 8), .int .i64 n36, .int .i64 (w64 (n36 + 8)), .int .i64 (w64 (n36 + 8)), .int .u64 (shr x35 8), .int .u8 (u8 (shr x35 8)), .int .u8 (bt str0 (u8 (shr x35 8))), .int .i64 (w64 ((bt str0 (u8 (shr x35 8))))), .int .i64 (w64 ((w64 (n36 + 8)) + (w64 ((bt str0 (u8 (shr x35 8)))))))], []⟩) (by kernel_rfl) ?_
        refine wpList_nil ?_
        refine hK49 _ _ ?_
        refine wp_ret ?_
        refine hret _ _ ?_
        refine ends_still (v := Value.int .i64 (w64 ((w64 (n36 + 8)) + (w64 ((bt str0 (u8 (shr x35 8)))))))) (by kernel_rfl) (by kernel_rfl) ?_
        injection h with h
        subst h
        exact ⟨f30, rfl, (L13.trans L31), HS33⟩
      · have c45 : ¬ (x35 ≥ 256) := c45
        refine wpRwI 14 (x := (decide (x35 ≥ 256))) (v := false) (by kernel_rfl) (decide_eq_false c45) ?_
        refine condF (by kernel_rfl) ?_
        refine wp_skip ?_
        refine hK41 _ _ ?_
        refine wp_seq_k (fun K52 hK53 => ?_)
        refine wp_region_lit ?_
        have hq_ := guard_some h; clear h; obtain ⟨c54, h⟩ := hq_
        have c54 : 0 ≤ (u8 (x35)) := c54
        have hq_ := guard_some h; clear h; obtain ⟨c55, h⟩ := hq_
        have c55 : (u8 (x35)) < (str0.size : Int) := c55
        refine seqL3 (by kernel_rfl) ?_
        refine seqK rfl (does_run (run_byte rfl Try.underlying9 (by kernel_rfl : _ = Value.string str0) (by kernel_rfl : _ = Value.int .u8 (u8 (x35))) c54 c55 W32) ?_)
        refine seqS3 (a' := ⟨#[.int .u64 x35, undef, .int .i64 (w64 (n36 + (w64 ((bt str0 (u8 (x35))))))), .int .u64 x1, (j16 0), (j16 1), (j16 2), .int .u64 x17, (j34 0), (j34 1), (j34 2), (j34 3), (j34 4), .int .u64 x35, .bool false, undef, undef, undef, undef, .int .i64 n36, .int .u64 x35, .int .u8 (u8 (x35)), .int .u8 (bt str0 (u8 (x35))), .int .i64 (w64 ((bt str0 (u8 (x35))))), .int .i64 (w64 (n36 + (w64 ((bt str0 (u8 (x35)))))))], []⟩) (by kernel_rfl) ?_
        refine wpList_nil ?_
        refine hK53 _ _ ?_
        refine wp_ret ?_
        refine hret _ _ ?_
        refine ends_still (v := Value.int .i64 (w64 (n36 + (w64 ((bt str0 (u8 (x35)))))))) (by kernel_rfl) (by kernel_rfl) ?_
        injection h with h
        subst h
        exact ⟨f30, rfl, (L13.trans L31), HS33⟩
    clear h; have h := hv37; clear hv37
    have hq_ := ite_some h; clear h; rcases hq_ with ⟨c27, h⟩ | ⟨c27, h⟩
    · have c27 : x17 ≥ 65536 := c27
      refine wpRwI 8 (x := (decide (x17 ≥ 65536))) (v := true) (by kernel_rfl) (decide_eq_true c27) ?_
      refine condT (by kernel_rfl) ?_
      refine wp_seq_k (fun K28 hK29 => ?_)
      refine wp_region_lit ?_
      refine seqS3 (a' := ⟨#[.int .u64 (shr x17 16), undef, .int .i64 n18, .int .u64 x1, (j16 0), (j16 1), (j16 2), .int .u64 x17, .bool true, .int .u64 x17, .int .u64 (shr x17 16), undef, undef, undef, undef, undef, undef, undef, undef, undef, undef, undef, undef, undef, undef], []⟩) (by kernel_rfl) ?_
      refine wpList_nil ?_
      refine hK29 _ _ ?_
      refine wp_region_lit ?_
      refine seqS3 (a' := ⟨#[.int .u64 (shr x17 16), undef, .int .i64 (w64 (n18 + 16)), .int .u64 x1, (j16 0), (j16 1), (j16 2), .int .u64 x17, .bool true, .int .u64 x17, .int .u64 (shr x17 16), .int .i64 n18, .int .i64 (w64 (n18 + 16)), undef, undef, undef, undef, undef, undef, undef, undef, undef, undef, undef, undef], []⟩) (by kernel_rfl) ?_
      refine wpList_nil ?_
      exact J38 f12 (shr x17 16) (w64 (n18 + 16)) (fun i_ => [Value.bool true, Value.int .u64 x17, Value.int .u64 (shr x17 16), Value.int .i64 n18, Value.int .i64 (w64 (n18 + 16))].getD i_ undef) W14 _ (FM.le.refl _) h HS15 (by kernel_rfl)
    · have c27 : ¬ (x17 ≥ 65536) := c27
      refine wpRwI 8 (x := (decide (x17 ≥ 65536))) (v := false) (by kernel_rfl) (decide_eq_false c27) ?_
      refine condF (by kernel_rfl) ?_
      refine wp_skip ?_
      exact J38 f12 x17 n18 (fun i_ => [Value.bool false, undef, undef, undef, undef].getD i_ undef) W14 _ (FM.le.refl _) h HS15 (by kernel_rfl)
  clear h; have h := hv19; clear hv19
  have hq_ := ite_some h; clear h; rcases hq_ with ⟨c9, h⟩ | ⟨c9, h⟩
  · have c9 : x1 ≥ 4294967296 := c9
    refine wpRwI 4 (x := (decide (x1 ≥ 4294967296))) (v := true) (by kernel_rfl) (decide_eq_true c9) ?_
    refine condT (by kernel_rfl) ?_
    refine wp_seq_k (fun K10 hK11 => ?_)
    refine wp_region_lit ?_
    refine seqS3 (a' := ⟨#[.int .u64 (shr x1 32), undef, .int .i64 0, .int .u64 x1, .bool true, .int .u64 x1, .int .u64 (shr x1 32), undef, undef, undef, undef, undef, undef, undef, undef, undef, undef, undef, undef, undef, undef, undef, undef, undef, undef], []⟩) (by kernel_rfl) ?_
    refine wpList_nil ?_
    refine hK11 _ _ ?_
    refine wp_region_lit ?_
    refine seqS1 (a' := ⟨#[.int .u64 (shr x1 32), undef, .int .i64 32, .int .u64 x1, .bool true, .int .u64 x1, .int .u64 (shr x1 32), undef, undef, undef, undef, undef, undef, undef, undef, undef, undef, undef, undef, undef, undef, undef, undef, undef, undef], []⟩) (by kernel_rfl) ?_
    refine wpList_nil ?_
    exact J20 f (shr x1 32) 32 (fun i_ => [Value.bool true, Value.int .u64 x1, Value.int .u64 (shr x1 32)].getD i_ undef) w _ (FM.le.refl _) h HS (by kernel_rfl)
  · have c9 : ¬ (x1 ≥ 4294967296) := c9
    refine wpRwI 4 (x := (decide (x1 ≥ 4294967296))) (v := false) (by kernel_rfl) (decide_eq_false c9) ?_
    refine condF (by kernel_rfl) ?_
    refine wp_skip ?_
    exact J20 f x1 0 (fun i_ => [Value.bool false, undef, undef].getD i_ undef) w _ (FM.le.refl _) h HS (by kernel_rfl)

set_option maxRecDepth 100000 in
set_option maxHeartbeats 4000000 in
theorem bits_LeadingZeros64.calls (k : Nat)  (x1 : Int) {t w : World} {f : FM} {H : List Seg} (HS : St t w f (H)) (r1 : Int) (h : bits_LeadingZeros64 k x1 = some r1) :
    Calls Try.prog 133 #[.int .u64 x1] w (fun e w' => ∃ (g : FM), e = .returned (Value.int .i64 r1) ∧ FM.le f g ∧ St t w' g (H)) := by
  unfold bits_LeadingZeros64 at h
  refine enter Try.func133 rfl (tm := #[.int .u64 x1, undef, undef, undef, undef, undef]) (by kernel_rfl) ?_
  intro B hret hnor hnp
  refine wp_seq_k (fun K2 hK3 => ?_)
  refine wp_region_lit ?_
  refine seqS1 (a' := ⟨#[.int .u64 x1, undef, .int .i64 0, undef, undef, undef], []⟩) (by kernel_rfl) ?_
  refine wpList_nil ?_
  refine hK3 _ _ ?_
  refine wp_seq_k (fun K4 hK5 => ?_)
  refine wp_region_lit ?_
  have hq_ := bind_some h; clear h; obtain ⟨vt6, hc7, h⟩ := hq_
  refine seqL1 (by kernel_rfl) ?_
  refine seqK rfl (does_call (f := 129) (args := #[.int .u64 x1]) (by kernel_rfl) (bits_Len64.calls k x1 HS vt6 hc7) ?_)
  rintro _ W10 ⟨f8, rfl, L9, HS11⟩
  refine ⟨_, rfl, ?_⟩
  refine seqS2 (a' := ⟨#[.int .u64 x1, undef, .int .i64 (w64 (64 - vt6)), .int .u64 x1, .int .i64 vt6, .int .i64 (w64 (64 - vt6))], []⟩) (by kernel_rfl) ?_
  refine wpList_nil ?_
  refine hK5 _ _ ?_
  refine wp_ret ?_
  refine hret _ _ ?_
  refine ends_still (v := Value.int .i64 (w64 (64 - vt6))) (by kernel_rfl) (by kernel_rfl) ?_
  injection h with h
  subst h
  exact ⟨f8, rfl, L9, HS11⟩

end Go.Sp.Z6
