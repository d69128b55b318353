import Derived.Test.YtjibamedpdpofaaProg
import Derived.Test.YtjibamedpdpofaaSpMore
import Derived.Test.YtjibamedpdpofaaFX5
namespace Go.Sp.X5
open Go Go.Sp Go.Proofs
set_option linter.unusedVariables false
attribute [local irreducible] wpList AnyL Code.wp Calls Does
def ty_Stream : Ty S_Stream where
  sz := 2
  rep := fun f cs x => ∃ (A0 : Option Addr) (c0 : Nat), cs = [.slice A0 x.L.length c0, .int .i64 x.vat] ∧ SlR (tInt .i64) f A0 c0 x.L
  pos := by decide
  len := by rintro f cs x ⟨A0, c0, rfl, h0⟩; rfl
  mono := by rintro f g cs x hl ⟨A0, c0, rfl, h0⟩; exact ⟨A0, c0, rfl, h0.mono hl⟩
  one := by
    rintro f cs x ⟨A0, c0, rfl, h0⟩ v hv
    simp only [List.mem_cons, List.not_mem_nil, or_false] at hv
    rcases hv with rfl | rfl <;> rfl
def ty_Sensor : Ty S_Sensor where
  sz := 8
  rep := fun f cs x => ∃ (A2 : Option Addr) (c2 : Nat) (A3 : Option Addr) (c3 : Nat) (A4 : Option Addr) (c4 : Nat), cs = [.int .i64 x.W, .int .i64 x.H, .slice A2 x.Bias.length c2, .slice A3 x.Dark.length c3, .slice A4 x.Flat.length c4, .int .i64 x.Full, .int .i64 x.Gain, .int .i64 x.Noise] ∧ SlR (tInt .i64) f A2 c2 x.Bias ∧ SlR (tInt .i64) f A3 c3 x.Dark ∧ SlR (tInt .i64) f A4 c4 x.Flat
  pos := by decide
  len := by rintro f cs x ⟨A2, c2, A3, c3, A4, c4, rfl, h2, h3, h4⟩; rfl
  mono := by rintro f g cs x hl ⟨A2, c2, A3, c3, A4, c4, rfl, h2, h3, h4⟩; exact ⟨A2, c2, A3, c3, A4, c4, rfl, h2.mono hl, h3.mono hl, h4.mono hl⟩
  one := by
    rintro f cs x ⟨A2, c2, A3, c3, A4, c4, rfl, h2, h3, h4⟩ v hv
    simp only [List.mem_cons, List.not_mem_nil, or_false] at hv
    rcases hv with rfl | rfl | rfl | rfl | rfl | rfl | rfl | rfl <;> rfl
def ty_Wide : Ty S_Wide where
  sz := 2
  rep := fun f cs x => cs = [.int .i64 x.Hi, .int .u64 x.Lo]
  pos := by decide
  len := by rintro f cs x rfl; rfl
  mono := by rintro f g cs x hl rfl; exact rfl
  one := by
    rintro f cs x rfl v hv
    simp only [List.mem_cons, List.not_mem_nil, or_false] at hv
    rcases hv with rfl | rfl <;> rfl
theorem inf3 : Inf Try.prog 3 1 8 (.int .i64 0) := .mk' (by kernel_rfl) rfl
theorem inf25 : Inf Try.prog 25 1 8 (.int .i64 0) := .mk' (by kernel_rfl) rfl
theorem inf22 : Inf Try.prog 22 1 8 (.int .i64 0) := .mk' (by kernel_rfl) rfl

set_option maxRecDepth 100000 in
set_option maxHeartbeats 4000000 in
theorem spymake_Below.calls (k : Nat)  (x1 : Int) (n2 : Int) {t w : World} {f : FM} {H : List Seg} (HS : St t w f (H)) (r1 : Int) (h : spymake_Below k x1 n2 = some r1) :
    Calls Try.prog 24 #[.int .i64 x1, .int .i64 n2] w (fun e w' => ∃ (g : FM), e = .returned (Value.int .i64 r1) ∧ FM.le f g ∧ St t w' g (H)) := by
  unfold spymake_Below at h
  refine enter Try.func24 rfl (tm := #[.int .i64 x1, .int .i64 n2, undef, undef, undef, undef, undef, undef, undef, undef, undef, undef, undef, undef, undef, undef]) (by kernel_rfl) ?_
  intro B hret hnor hnp
  refine wp_seq_k (fun K3 hK4 => ?_)
  refine wp_region_lit ?_
  refine seqS1 (a' := ⟨#[.int .i64 x1, .int .i64 n2, undef, undef, .int .i64 0, undef, undef, undef, undef, undef, undef, undef, undef, undef, undef, undef], []⟩) (by kernel_rfl) ?_
  refine wpList_nil ?_
  refine hK4 _ _ ?_
  refine wp_seq_k (fun K5 hK6 => ?_)
  refine wp_seq_k (fun K7 hK8 => ?_)
  refine wp_region_lit ?_
  refine seqS2 (a' := ⟨#[.int .i64 x1, .int .i64 n2, undef, undef, .int .i64 0, .int .i64 n2, .bool (decide (n2 < 1)), undef, undef, undef, undef, undef, undef, undef, undef, undef], []⟩) (by kernel_rfl) ?_
  refine wpList_nil ?_
  refine hK8 _ _ ?_
  have hq_ := ite_some h; clear h; rcases hq_ with ⟨c10, h⟩ | ⟨c10, h⟩
  · have c10 : n2 < 1 := c10
    refine wpRwI 6 (x := (decide (n2 < 1))) (v := true) (by kernel_rfl) (decide_eq_true c10) ?_
    refine condT (by kernel_rfl) ?_
    refine wp_seq_k (fun K11 hK12 => ?_)
    refine wp_region_lit ?_
    refine seqS1 (a' := ⟨#[.int .i64 x1, .int .i64 n2, undef, undef, .int .i64 0, .int .i64 n2, .bool true, undef, undef, undef, undef, undef, undef, undef, undef, undef], []⟩) (by kernel_rfl) ?_
    refine wpList_nil ?_
    refine hK12 _ _ ?_
    refine wp_ret ?_
    refine hret _ _ ?_
    refine ends_still (v := Value.int .i64 0) (by kernel_rfl) (by kernel_rfl) ?_
    injection h with h
    subst h
    exact ⟨f, rfl, FM.le.refl _, HS⟩
  · have c10 : ¬ (n2 < 1) := c10
    refine wpRwI 6 (x := (decide (n2 < 1))) (v := false) (by kernel_rfl) (decide_eq_false c10) ?_
    refine condF (by kernel_rfl) ?_
    refine wp_skip ?_
    refine hK6 _ _ ?_
    refine wp_seq_k (fun K13 hK14 => ?_)
    refine wp_region_lit ?_
    have hq_ := guard_some h; clear h; obtain ⟨c15, h⟩ := hq_
    have c15 : ¬ (n2 = 0) := c15
    refine seqL2 (by kernel_rfl) ?_
    refine seqK rfl (does_run (run_rem rfl (by kernel_rfl : _ = Value.int .i64 x1) (by kernel_rfl : _ = Value.int .i64 n2) c15 w) ?_)
    refine seqS1 (a' := ⟨#[.int .i64 (Int.tmod x1 n2), .int .i64 n2, undef, undef, .int .i64 0, .int .i64 n2, .bool false, .int .i64 x1, .int .i64 n2, .int .i64 (Int.tmod x1 n2), undef, undef, undef, undef, undef, undef], []⟩) (by kernel_rfl) ?_
    refine wpList_nil ?_
    refine hK14 _ _ ?_
    refine wp_seq_k (fun K16 hK17 => ?_)
    refine wp_seq_k (fun K18 hK19 => ?_)
    refine wp_region_lit ?_
    refine seqS2 (a' := ⟨#[.int .i64 (Int.tmod x1 n2), .int .i64 n2, undef, undef, .int .i64 0, .int .i64 n2, .bool false, .int .i64 x1, .int .i64 n2, .int .i64 (Int.tmod x1 n2), .int .i64 (Int.tmod x1 n2), .bool (decide ((Int.tmod x1 n2) < 0)), undef, undef, undef, undef], []⟩) (by kernel_rfl) ?_
    refine wpList_nil ?_
    refine hK19 _ _ ?_
    have hq_ := ite_some h; clear h; rcases hq_ with ⟨c21, h⟩ | ⟨c21, h⟩
    · have c21 : (Int.tmod x1 n2) < 0 := c21
      refine wpRwI 11 (x := (decide ((Int.tmod x1 n2) < 0))) (v := true) (by kernel_rfl) (decide_eq_true c21) ?_
      refine condT (by kernel_rfl) ?_
      refine wp_region_lit ?_
      refine seqS4 (a' := ⟨#[.int .i64 (w64 ((Int.tmod x1 n2) + n2)), .int .i64 n2, undef, undef, .int .i64 0, .int .i64 n2, .bool false, .int .i64 x1, .int .i64 n2, .int .i64 (Int.tmod x1 n2), .int .i64 (Int.tmod x1 n2), .bool true, .int .i64 (Int.tmod x1 n2), .int .i64 n2, .int .i64 (w64 ((Int.tmod x1 n2) + n2)), undef], []⟩) (by kernel_rfl) ?_
      refine wpList_nil ?_
      refine hK17 _ _ ?_
      refine wp_seq_k (fun K22 hK23 => ?_)
      refine wp_region_lit ?_
      refine seqS2 (a' := ⟨#[.int .i64 (w64 ((Int.tmod x1 n2) + n2)), .int .i64 n2, undef, undef, .int .i64 (w64 ((Int.tmod x1 n2) + n2)), .int .i64 n2, .bool false, .int .i64 x1, .int .i64 n2, .int .i64 (Int.tmod x1 n2), .int .i64 (Int.tmod x1 n2), .bool true, .int .i64 (Int.tmod x1 n2), .int .i64 n2, .int .i64 (w64 ((Int.tmod x1 n2) + n2)), .int .i64 (w64 ((Int.tmod x1 n2) + n2))], []⟩) (by kernel_rfl) ?_
      refine wpList_nil ?_
      refine hK23 _ _ ?_
      refine wp_ret ?_
      refine hret _ _ ?_
      refine ends_still (v := Value.int .i64 (w64 ((Int.tmod x1 n2) + n2))) (by kernel_rfl) (by kernel_rfl) ?_
      injection h with h
      subst h
      exact ⟨f, rfl, FM.le.refl _, HS⟩
    · have c21 : ¬ ((Int.tmod x1 n2) < 0) := c21
      refine wpRwI 11 (x := (decide ((Int.tmod x1 n2) < 0))) (v := false) (by kernel_rfl) (decide_eq_false c21) ?_
      refine condF (by kernel_rfl) ?_
      refine wp_skip ?_
      refine hK17 _ _ ?_
      refine wp_seq_k (fun K24 hK25 => ?_)
      refine wp_region_lit ?_
      refine seqS2 (a' := ⟨#[.int .i64 (Int.tmod x1 n2), .int .i64 n2, undef, undef, .int .i64 (Int.tmod x1 n2), .int .i64 n2, .bool false, .int .i64 x1, .int .i64 n2, .int .i64 (Int.tmod x1 n2), .int .i64 (Int.tmod x1 n2), .bool false, undef, undef, undef, .int .i64 (Int.tmod x1 n2)], []⟩) (by kernel_rfl) ?_
      refine wpList_nil ?_
      refine hK25 _ _ ?_
      refine wp_ret ?_
      refine hret _ _ ?_
      refine ends_still (v := Value.int .i64 (Int.tmod x1 n2)) (by kernel_rfl) (by kernel_rfl) ?_
      injection h with h
      subst h
      exact ⟨f, rfl, FM.le.refl _, HS⟩

set_option maxRecDepth 100000 in
set_option maxHeartbeats 4000000 in
theorem spymake_Stream_Next.calls (k : Nat) (b1 : Nat) (A4 : Option Addr) (c5 : Nat) (s3 : S_Stream) (n7 : Int) {t w : World} {f : FM} {H : List Seg} (HS : St t w f ([(b1, .cells #[.slice A4 s3.L.length c5, .int .i64 s3.vat] 43 (0, 0))] :: H)) (HR6 : SlR (tInt .i64) f A4 c5 s3.L) (r1 : Int) (r2 : Int) (h : spymake_Stream_Next k s3 n7 = some (r1, r2)) :
    Calls Try.prog 25 #[.pointer (some ⟨b1, 0, none⟩), .int .i64 n7] w (fun e w' => ∃ (g : FM), e = .returned (Value.int .i64 r1) ∧ FM.le f g ∧ St t w' g ([(b1, .cells #[.slice A4 s3.L.length c5, .int .i64 r2] 43 (0, 0))] :: H)) := by
  unfold spymake_Stream_Next at h
  refine enter Try.func25 rfl (tm := #[.pointer (some ⟨b1, 0, none⟩), .int .i64 n7, undef, undef, undef, undef, undef, undef, undef, undef, undef, undef, undef, undef, undef, undef, undef, undef, undef, undef, undef, undef, undef, undef, undef, undef, undef, undef, undef, undef, undef, undef, undef, undef, undef, undef, undef, undef, undef, undef, undef, undef, undef, undef, undef, undef, undef, undef, undef, undef, undef, undef, undef, undef, undef, undef, undef, undef, undef, undef, undef, undef, undef, undef]) (by kernel_rfl) ?_
  intro B hret hnor hnp
  refine wp_seq_k (fun K8 hK9 => ?_)
  refine wp_region_lit ?_
  refine seqS1 (a' := ⟨#[.pointer (some ⟨b1, 0, none⟩), .int .i64 n7, undef, undef, .int .i64 0, undef, undef, undef, undef, undef, undef, undef, undef, undef, undef, undef, undef, undef, undef, undef, undef, undef, undef, undef, undef, undef, undef, undef, undef, undef, undef, undef, undef, undef, undef, undef, undef, undef, undef, undef, undef, undef, undef, undef, undef, undef, undef, undef, undef, undef, undef, undef, undef, undef, undef, undef, undef, undef, undef, undef, undef, undef, undef, undef], []⟩) (by kernel_rfl) ?_
  refine wpList_nil ?_
  refine hK9 _ _ ?_
  refine wp_seq_k (fun K10 hK11 => ?_)
  refine wp_region_lit ?_
  refine seqL3 (by kernel_rfl) ?_
  refine seqK rfl (does_run (run_load rfl Try.underlying3 rfl (by kernel_rfl : _ = Value.pointer (some ⟨b1, 1, none⟩)) (HS.cell 1)) ?_)
  refine seqL3 (by kernel_rfl) ?_
  refine seqK rfl (does_store (n := 1) (vs := [.int .i64 (w64 (s3.vat + 1))]) (cs' := #[.slice A4 s3.L.length c5, .int .i64 (w64 (s3.vat + 1))]) rfl (by kernel_rfl) (by kernel_rfl : _ = Value.pointer (some ⟨b1, 1, none⟩)) (by kernel_rfl : _ = Value.int .i64 (w64 (s3.vat + 1))) rfl rfl (by intro u_ hu_; simp only [List.mem_cons, List.not_mem_nil, or_false] at hu_; subst hu_; rfl) HS (Nat.le_of_ble_eq_true rfl) (by kernel_rfl) ?_)
  intro W12 HS13
  refine wpList_nil ?_
  refine hK11 _ _ ?_
  refine wp_seq_k (fun K14 hK15 => ?_)
  refine wp_seq_k (fun K16 hK17 => ?_)
  refine wp_region_lit ?_
  refine seqL3 (by kernel_rfl) ?_
  refine seqK rfl (does_run (run_load rfl Try.underlying40 rfl (by kernel_rfl : _ = Value.pointer (some ⟨b1, 0, none⟩)) (HS13.cell 0)) ?_)
  refine seqS2 (a' := ⟨#[.pointer (some ⟨b1, 0, none⟩), .int .i64 n7, undef, undef, .int .i64 0, undef, undef, .pointer (some ⟨b1, 0, none⟩), .pointer (some ⟨b1, 0, none⟩), .pointer (some ⟨b1, 1, none⟩), .int .i64 s3.vat, .int .i64 (w64 (s3.vat + 1)), .pointer (some ⟨b1, 0, none⟩), .pointer (some ⟨b1, 1, none⟩), .pointer (some ⟨b1, 0, none⟩), .pointer (some ⟨b1, 0, none⟩), .pointer (some ⟨b1, 0, none⟩), .slice A4 s3.L.length c5, .int .i64 (s3.L.length : Int), .bool ((s3.L.length : Int) == 0), undef, undef, undef, undef, undef, undef, undef, undef, undef, undef, undef, undef, undef, undef, undef, undef, undef, undef, undef, undef, undef, undef, undef, undef, undef, undef, undef, undef, undef, undef, undef, undef, undef, undef, undef, undef, undef, undef, undef, undef, undef, undef, undef, undef], []⟩) (by kernel_rfl) ?_
  refine wpList_nil ?_
  refine hK17 _ _ ?_
  have hq_ := ite_some h; clear h; rcases hq_ with ⟨c19, h⟩ | ⟨c19, h⟩
  · have c19 : (s3.L.length : Int) = 0 := c19
    refine wpRwI 19 (x := ((s3.L.length : Int) == 0)) (v := true) (by kernel_rfl) (beq_iff_eq.mpr c19) ?_
    refine condT (by kernel_rfl) ?_
    refine wp_seq_k (fun K20 hK21 => ?_)
    refine wp_region_lit ?_
    refine seqL3 (by kernel_rfl) ?_
    refine seqK rfl (does_run (run_load rfl Try.underlying3 rfl (by kernel_rfl : _ = Value.pointer (some ⟨b1, 1, none⟩)) (HS13.cell 1)) ?_)
    have hq_ := bind_some h; clear h; obtain ⟨vt22, hc23, h⟩ := hq_
    refine seqL2 (by kernel_rfl) ?_
    refine seqK rfl (does_call (f := 24) (args := #[.int .i64 (w64 ((w64 (s3.vat + 1)) * 7919)), .int .i64 n7]) (by kernel_rfl) (spymake_Below.calls k (w64 ((w64 (s3.vat + 1)) * 7919)) n7 HS13 vt22 hc23) ?_)
    rintro _ W26 ⟨f24, rfl, L25, HS27⟩
    refine ⟨_, rfl, ?_⟩
    refine seqS1 (a' := ⟨#[.pointer (some ⟨b1, 0, none⟩), .int .i64 n7, undef, undef, .int .i64 vt22, undef, undef, .pointer (some ⟨b1, 0, none⟩), .pointer (some ⟨b1, 0, none⟩), .pointer (some ⟨b1, 1, none⟩), .int .i64 s3.vat, .int .i64 (w64 (s3.vat + 1)), .pointer (some ⟨b1, 0, none⟩), .pointer (some ⟨b1, 1, none⟩), .pointer (some ⟨b1, 0, none⟩), .pointer (some ⟨b1, 0, none⟩), .pointer (some ⟨b1, 0, none⟩), .slice A4 s3.L.length c5, .int .i64 (s3.L.length : Int), .bool true, .pointer (some ⟨b1, 0, none⟩), .pointer (some ⟨b1, 0, none⟩), .pointer (some ⟨b1, 1, none⟩), .int .i64 (w64 (s3.vat + 1)), .int .i64 (w64 ((w64 (s3.vat + 1)) * 7919)), .int .i64 n7, .int .i64 vt22, undef, undef, undef, undef, undef, undef, undef, undef, undef, undef, undef, undef, undef, undef, undef, undef, undef, undef, undef, undef, undef, undef, undef, undef, undef, undef, undef, undef, undef, undef, undef, undef, undef, undef, undef, undef, undef], []⟩) (by kernel_rfl) ?_
    refine wpList_nil ?_
    refine hK21 _ _ ?_
    refine wp_ret ?_
    refine hret _ _ ?_
    refine ends_still (v := Value.int .i64 vt22) (by kernel_rfl) (by kernel_rfl) ?_
    injection h with h
    injection h with h0_ h
    subst h0_ h
    exact ⟨f24, rfl, L25, HS27⟩
  · have c19 : ¬ ((s3.L.length : Int) = 0) := c19
    refine wpRwI 19 (x := ((s3.L.length : Int) == 0)) (v := false) (by kernel_rfl) (beq_eq_false_iff_ne.mpr c19) ?_
    refine condF (by kernel_rfl) ?_
    refine wp_skip ?_
    refine hK15 _ _ ?_
    refine wp_seq_k (fun K28 hK29 => ?_)
    refine heldG (S := Sg t f ([(b1, .cells #[.slice A4 s3.L.length c5, .int .i64 (w64 (s3.vat + 1))] 43 (0, 0))] :: H) []) (n := 12) (by kernel_rfl) rfl HS13 ?_
    intro W30 HS31
    refine takeG [0, 1, 2] (n := 12) (fuel := 9) (l' := #[true, true, true, false, false, false, false, false, false, false, false, false]) (a' := ⟨#[.pointer (some ⟨b1, 0, none⟩), .int .i64 n7, undef, undef, .int .i64 0, undef, undef, .pointer (some ⟨b1, 0, none⟩), .pointer (some ⟨b1, 0, none⟩), .pointer (some ⟨b1, 1, none⟩), .int .i64 s3.vat, .int .i64 (w64 (s3.vat + 1)), .pointer (some ⟨b1, 0, none⟩), .pointer (some ⟨b1, 1, none⟩), .pointer (some ⟨b1, 0, none⟩), .pointer (some ⟨b1, 0, none⟩), .pointer (some ⟨b1, 0, none⟩), .slice A4 s3.L.length c5, .int .i64 (s3.L.length : Int), .bool false, undef, undef, undef, undef, undef, undef, undef, .pointer (some ⟨b1, 0, none⟩), .pointer (some ⟨b1, 0, none⟩), .pointer (some ⟨b1, 1, none⟩), undef, undef, undef, undef, undef, undef, undef, undef, undef, undef, undef, undef, undef, undef, undef, undef, undef, undef, undef, undef, undef, undef, undef, undef, undef, undef, undef, undef, undef, undef, undef, undef, undef, undef], []⟩) rfl (by kernel_rfl) (by kernel_rfl) (by kernel_rfl) hnp (Sg.g0 (Sx.of [] (FM.le.refl _) HS31)) ?_
    refine takeGQ 3 [] rfl (by kernel_rfl) (by kernel_rfl) (by kernel_rfl) (by kernel_rfl) (by kernel_rfl) (by kernel_rfl) hnp (Sg.g0 (Sx.of [] (FM.le.refl _) HS31)) (fun w_ hw_ => by obtain ⟨g_, hl_, hS_⟩ := hw_.st; exact run_load rfl Try.underlying3 rfl (by kernel_rfl : _ = Value.pointer (some ⟨b1, 1, none⟩)) (hS_.cell 1)) ?_
    refine takeG [4, 5, 6, 7] (n := 8) (fuel := 4) (l' := #[true, true, true, true, true, true, true, true, false, false, false, false]) (a' := ⟨#[.pointer (some ⟨b1, 0, none⟩), .int .i64 n7, undef, undef, .int .i64 0, undef, undef, .pointer (some ⟨b1, 0, none⟩), .pointer (some ⟨b1, 0, none⟩), .pointer (some ⟨b1, 1, none⟩), .int .i64 s3.vat, .int .i64 (w64 (s3.vat + 1)), .pointer (some ⟨b1, 0, none⟩), .pointer (some ⟨b1, 1, none⟩), .pointer (some ⟨b1, 0, none⟩), .pointer (some ⟨b1, 0, none⟩), .pointer (some ⟨b1, 0, none⟩), .slice A4 s3.L.length c5, .int .i64 (s3.L.length : Int), .bool false, undef, undef, undef, undef, undef, undef, undef, .pointer (some ⟨b1, 0, none⟩), .pointer (some ⟨b1, 0, none⟩), .pointer (some ⟨b1, 1, none⟩), .int .i64 (w64 (s3.vat + 1)), .int .i64 (w64 ((w64 (s3.vat + 1)) - 1)), .pointer (some ⟨b1, 0, none⟩), .pointer (some ⟨b1, 0, none⟩), .pointer (some ⟨b1, 0, none⟩), undef, undef, undef, undef, undef, undef, undef, undef, undef, undef, undef, undef, undef, undef, undef, undef, undef, undef, undef, undef, undef, undef, undef, undef, undef, undef, undef, undef, undef], []⟩) rfl (by kernel_rfl) (by kernel_rfl) (by kernel_rfl) hnp (Sg.g0 (Sx.of [] (FM.le.refl _) HS31)) ?_
    refine takeGQ 8 [] rfl (by kernel_rfl) (by kernel_rfl) (by kernel_rfl) (by kernel_rfl) (by kernel_rfl) (by kernel_rfl) hnp (Sg.g0 (Sx.of [] (FM.le.refl _) HS31)) (fun w_ hw_ => by obtain ⟨g_, hl_, hS_⟩ := hw_.st; exact run_load rfl Try.underlying40 rfl (by kernel_rfl : _ = Value.pointer (some ⟨b1, 0, none⟩)) (hS_.cell 0)) ?_
    have hq_ := guard_some h; clear h; obtain ⟨c32, h⟩ := hq_
    have c32 : ¬ ((s3.L.length : Int) = 0) := c32
    refine takeG [9] (n := 3) (fuel := 2) (l' := #[true, true, true, true, true, true, true, true, true, true, false, false]) (a' := ⟨#[.pointer (some ⟨b1, 0, none⟩), .int .i64 n7, undef, undef, .int .i64 0, undef, undef, .pointer (some ⟨b1, 0, none⟩), .pointer (some ⟨b1, 0, none⟩), .pointer (some ⟨b1, 1, none⟩), .int .i64 s3.vat, .int .i64 (w64 (s3.vat + 1)), .pointer (some ⟨b1, 0, none⟩), .pointer (some ⟨b1, 1, none⟩), .pointer (some ⟨b1, 0, none⟩), .pointer (some ⟨b1, 0, none⟩), .pointer (some ⟨b1, 0, none⟩), .slice A4 s3.L.length c5, .int .i64 (s3.L.length : Int), .bool false, undef, undef, undef, undef, undef, undef, undef, .pointer (some ⟨b1, 0, none⟩), .pointer (some ⟨b1, 0, none⟩), .pointer (some ⟨b1, 1, none⟩), .int .i64 (w64 (s3.vat + 1)), .int .i64 (w64 ((w64 (s3.vat + 1)) - 1)), .pointer (some ⟨b1, 0, none⟩), .pointer (some ⟨b1, 0, none⟩), .pointer (some ⟨b1, 0, none⟩), .slice A4 s3.L.length c5, .int .i64 (s3.L.length : Int), undef, undef, undef, undef, undef, undef, undef, undef, undef, undef, undef, undef, undef, undef, undef, undef, undef, undef, undef, undef, undef, undef, undef, undef, undef, undef, undef], []⟩) rfl (by kernel_rfl) (by kernel_rfl) (by kernel_rfl) hnp (Sg.g0 (Sx.of [] (FM.le.refl _) HS31)) ?_
    refine takeGQ 10 [] rfl (by kernel_rfl) (by kernel_rfl) (by kernel_rfl) (by kernel_rfl) (by kernel_rfl) (by kernel_rfl) hnp (Sg.g0 (Sx.of [] (FM.le.refl _) HS31)) (fun w_ hw_ => by obtain ⟨g_, hl_, hS_⟩ := hw_.st; exact run_rem rfl (by kernel_rfl : _ = Value.int .i64 (w64 ((w64 (s3.vat + 1)) - 1))) (by kernel_rfl : _ = Value.int .i64 (s3.L.length : Int)) c32 w_) ?_
    refine takeG [11] (n := 1) (fuel := 0) (l' := #[true, true, true, true, true, true, true, true, true, true, true, true]) (a' := ⟨#[.pointer (some ⟨b1, 0, none⟩), .int .i64 n7, undef, undef, .int .i64 0, .int .i64 (Int.tmod (w64 ((w64 (s3.vat + 1)) - 1)) (s3.L.length : Int)), undef, .pointer (some ⟨b1, 0, none⟩), .pointer (some ⟨b1, 0, none⟩), .pointer (some ⟨b1, 1, none⟩), .int .i64 s3.vat, .int .i64 (w64 (s3.vat + 1)), .pointer (some ⟨b1, 0, none⟩), .pointer (some ⟨b1, 1, none⟩), .pointer (some ⟨b1, 0, none⟩), .pointer (some ⟨b1, 0, none⟩), .pointer (some ⟨b1, 0, none⟩), .slice A4 s3.L.length c5, .int .i64 (s3.L.length : Int), .bool false, undef, undef, undef, undef, undef, undef, undef, .pointer (some ⟨b1, 0, none⟩), .pointer (some ⟨b1, 0, none⟩), .pointer (some ⟨b1, 1, none⟩), .int .i64 (w64 (s3.vat + 1)), .int .i64 (w64 ((w64 (s3.vat + 1)) - 1)), .pointer (some ⟨b1, 0, none⟩), .pointer (some ⟨b1, 0, none⟩), .pointer (some ⟨b1, 0, none⟩), .slice A4 s3.L.length c5, .int .i64 (s3.L.length : Int), .int .i64 (Int.tmod (w64 ((w64 (s3.vat + 1)) - 1)) (s3.L.length : Int)), undef, undef, undef, undef, undef, undef, undef, undef, undef, undef, undef, undef, undef, undef, undef, undef, undef, undef, undef, undef, undef, undef, undef, undef, undef, undef], []⟩) rfl (by kernel_rfl) (by kernel_rfl) (by kernel_rfl) hnp (Sg.g0 (Sx.of [] (FM.le.refl _) HS31)) ?_
    refine doneG (by kernel_rfl) ?_ _
    refine hK29 _ _ ?_
    refine wp_seq_k (fun K33 hK34 => ?_)
    refine heldG (S := Sg t f ([(b1, .cells #[.slice A4 s3.L.length c5, .int .i64 (w64 (s3.vat + 1))] 43 (0, 0))] :: H) []) (n := 12) (by kernel_rfl) rfl HS31 ?_
    intro W35 HS36
    refine takeG [0, 1, 2] (n := 12) (fuel := 9) (l' := #[true, true, true, false, false, false, false, false, false, false, false, false]) (a' := ⟨#[.pointer (some ⟨b1, 0, none⟩), .int .i64 n7, undef, undef, .int .i64 0, .int .i64 (Int.tmod (w64 ((w64 (s3.vat + 1)) - 1)) (s3.L.length : Int)), undef, .pointer (some ⟨b1, 0, none⟩), .pointer (some ⟨b1, 0, none⟩), .pointer (some ⟨b1, 1, none⟩), .int .i64 s3.vat, .int .i64 (w64 (s3.vat + 1)), .pointer (some ⟨b1, 0, none⟩), .pointer (some ⟨b1, 1, none⟩), .pointer (some ⟨b1, 0, none⟩), .pointer (some ⟨b1, 0, none⟩), .pointer (some ⟨b1, 0, none⟩), .slice A4 s3.L.length c5, .int .i64 (s3.L.length : Int), .bool false, undef, undef, undef, undef, undef, undef, undef, .pointer (some ⟨b1, 0, none⟩), .pointer (some ⟨b1, 0, none⟩), .pointer (some ⟨b1, 1, none⟩), .int .i64 (w64 (s3.vat + 1)), .int .i64 (w64 ((w64 (s3.vat + 1)) - 1)), .pointer (some ⟨b1, 0, none⟩), .pointer (some ⟨b1, 0, none⟩), .pointer (some ⟨b1, 0, none⟩), .slice A4 s3.L.length c5, .int .i64 (s3.L.length : Int), .int .i64 (Int.tmod (w64 ((w64 (s3.vat + 1)) - 1)) (s3.L.length : Int)), .pointer (some ⟨b1, 0, none⟩), .pointer (some ⟨b1, 0, none⟩), .pointer (some ⟨b1, 1, none⟩), undef, undef, undef, undef, undef, undef, undef, undef, undef, undef, undef, undef, undef, undef, undef, undef, undef, undef, undef, undef, undef, undef, undef], []⟩) rfl (by kernel_rfl) (by kernel_rfl) (by kernel_rfl) hnp (Sg.g0 (Sx.of [] (FM.le.refl _) HS36)) ?_
    refine takeGQ 3 [] rfl (by kernel_rfl) (by kernel_rfl) (by kernel_rfl) (by kernel_rfl) (by kernel_rfl) (by kernel_rfl) hnp (Sg.g0 (Sx.of [] (FM.le.refl _) HS36)) (fun w_ hw_ => by obtain ⟨g_, hl_, hS_⟩ := hw_.st; exact run_load rfl Try.underlying3 rfl (by kernel_rfl : _ = Value.pointer (some ⟨b1, 1, none⟩)) (hS_.cell 1)) ?_
    refine takeG [4, 5, 6, 7] (n := 8) (fuel := 4) (l' := #[true, true, true, true, true, true, true, true, false, false, false, false]) (a' := ⟨#[.pointer (some ⟨b1, 0, none⟩), .int .i64 n7, undef, undef, .int .i64 0, .int .i64 (Int.tmod (w64 ((w64 (s3.vat + 1)) - 1)) (s3.L.length : Int)), undef, .pointer (some ⟨b1, 0, none⟩), .pointer (some ⟨b1, 0, none⟩), .pointer (some ⟨b1, 1, none⟩), .int .i64 s3.vat, .int .i64 (w64 (s3.vat + 1)), .pointer (some ⟨b1, 0, none⟩), .pointer (some ⟨b1, 1, none⟩), .pointer (some ⟨b1, 0, none⟩), .pointer (some ⟨b1, 0, none⟩), .pointer (some ⟨b1, 0, none⟩), .slice A4 s3.L.length c5, .int .i64 (s3.L.length : Int), .bool false, undef, undef, undef, undef, undef, undef, undef, .pointer (some ⟨b1, 0, none⟩), .pointer (some ⟨b1, 0, none⟩), .pointer (some ⟨b1, 1, none⟩), .int .i64 (w64 (s3.vat + 1)), .int .i64 (w64 ((w64 (s3.vat + 1)) - 1)), .pointer (some ⟨b1, 0, none⟩), .pointer (some ⟨b1, 0, none⟩), .pointer (some ⟨b1, 0, none⟩), .slice A4 s3.L.length c5, .int .i64 (s3.L.length : Int), .int .i64 (Int.tmod (w64 ((w64 (s3.vat + 1)) - 1)) (s3.L.length : Int)), .pointer (some ⟨b1, 0, none⟩), .pointer (some ⟨b1, 0, none⟩), .pointer (some ⟨b1, 1, none⟩), .int .i64 (w64 (s3.vat + 1)), .int .i64 (w64 ((w64 (s3.vat + 1)) - 1)), .pointer (some ⟨b1, 0, none⟩), .pointer (some ⟨b1, 0, none⟩), .pointer (some ⟨b1, 0, none⟩), undef, undef, undef, undef, undef, undef, undef, undef, undef, undef, undef, undef, undef, undef, undef, undef, undef, undef], []⟩) rfl (by kernel_rfl) (by kernel_rfl) (by kernel_rfl) hnp (Sg.g0 (Sx.of [] (FM.le.refl _) HS36)) ?_
    refine takeGQ 8 [] rfl (by kernel_rfl) (by kernel_rfl) (by kernel_rfl) (by kernel_rfl) (by kernel_rfl) (by kernel_rfl) hnp (Sg.g0 (Sx.of [] (FM.le.refl _) HS36)) (fun w_ hw_ => by obtain ⟨g_, hl_, hS_⟩ := hw_.st; exact run_load rfl Try.underlying40 rfl (by kernel_rfl : _ = Value.pointer (some ⟨b1, 0, none⟩)) (hS_.cell 0)) ?_
    refine takeG [9] (n := 3) (fuel := 2) (l' := #[true, true, true, true, true, true, true, true, true, true, false, false]) (a' := ⟨#[.pointer (some ⟨b1, 0, none⟩), .int .i64 n7, undef, undef, .int .i64 0, .int .i64 (Int.tmod (w64 ((w64 (s3.vat + 1)) - 1)) (s3.L.length : Int)), undef, .pointer (some ⟨b1, 0, none⟩), .pointer (some ⟨b1, 0, none⟩), .pointer (some ⟨b1, 1, none⟩), .int .i64 s3.vat, .int .i64 (w64 (s3.vat + 1)), .pointer (some ⟨b1, 0, none⟩), .pointer (some ⟨b1, 1, none⟩), .pointer (some ⟨b1, 0, none⟩), .pointer (some ⟨b1, 0, none⟩), .pointer (some ⟨b1, 0, none⟩), .slice A4 s3.L.length c5, .int .i64 (s3.L.length : Int), .bool false, undef, undef, undef, undef, undef, undef, undef, .pointer (some ⟨b1, 0, none⟩), .pointer (some ⟨b1, 0, none⟩), .pointer (some ⟨b1, 1, none⟩), .int .i64 (w64 (s3.vat + 1)), .int .i64 (w64 ((w64 (s3.vat + 1)) - 1)), .pointer (some ⟨b1, 0, none⟩), .pointer (some ⟨b1, 0, none⟩), .pointer (some ⟨b1, 0, none⟩), .slice A4 s3.L.length c5, .int .i64 (s3.L.length : Int), .int .i64 (Int.tmod (w64 ((w64 (s3.vat + 1)) - 1)) (s3.L.length : Int)), .pointer (some ⟨b1, 0, none⟩), .pointer (some ⟨b1, 0, none⟩), .pointer (some ⟨b1, 1, none⟩), .int .i64 (w64 (s3.vat + 1)), .int .i64 (w64 ((w64 (s3.vat + 1)) - 1)), .pointer (some ⟨b1, 0, none⟩), .pointer (some ⟨b1, 0, none⟩), .pointer (some ⟨b1, 0, none⟩), .slice A4 s3.L.length c5, .int .i64 (s3.L.length : Int), undef, undef, undef, undef, undef, undef, undef, undef, undef, undef, undef, undef, undef, undef, undef, undef], []⟩) rfl (by kernel_rfl) (by kernel_rfl) (by kernel_rfl) hnp (Sg.g0 (Sx.of [] (FM.le.refl _) HS36)) ?_
    refine takeGQ 10 [] rfl (by kernel_rfl) (by kernel_rfl) (by kernel_rfl) (by kernel_rfl) (by kernel_rfl) (by kernel_rfl) hnp (Sg.g0 (Sx.of [] (FM.le.refl _) HS36)) (fun w_ hw_ => by obtain ⟨g_, hl_, hS_⟩ := hw_.st; exact run_div rfl (by kernel_rfl : _ = Value.int .i64 (w64 ((w64 (s3.vat + 1)) - 1))) (by kernel_rfl : _ = Value.int .i64 (s3.L.length : Int)) c32 w_) ?_
    refine takeG [11] (n := 1) (fuel := 0) (l' := #[true, true, true, true, true, true, true, true, true, true, true, true]) (a' := ⟨#[.pointer (some ⟨b1, 0, none⟩), .int .i64 n7, undef, undef, .int .i64 0, .int .i64 (Int.tmod (w64 ((w64 (s3.vat + 1)) - 1)) (s3.L.length : Int)), .int .i64 (w64 (Int.tdiv (w64 ((w64 (s3.vat + 1)) - 1)) (s3.L.length : Int))), .pointer (some ⟨b1, 0, none⟩), .pointer (some ⟨b1, 0, none⟩), .pointer (some ⟨b1, 1, none⟩), .int .i64 s3.vat, .int .i64 (w64 (s3.vat + 1)), .pointer (some ⟨b1, 0, none⟩), .pointer (some ⟨b1, 1, none⟩), .pointer (some ⟨b1, 0, none⟩), .pointer (some ⟨b1, 0, none⟩), .pointer (some ⟨b1, 0, none⟩), .slice A4 s3.L.length c5, .int .i64 (s3.L.length : Int), .bool false, undef, undef, undef, undef, undef, undef, undef, .pointer (some ⟨b1, 0, none⟩), .pointer (some ⟨b1, 0, none⟩), .pointer (some ⟨b1, 1, none⟩), .int .i64 (w64 (s3.vat + 1)), .int .i64 (w64 ((w64 (s3.vat + 1)) - 1)), .pointer (some ⟨b1, 0, none⟩), .pointer (some ⟨b1, 0, none⟩), .pointer (some ⟨b1, 0, none⟩), .slice A4 s3.L.length c5, .int .i64 (s3.L.length : Int), .int .i64 (Int.tmod (w64 ((w64 (s3.vat + 1)) - 1)) (s3.L.length : Int)), .pointer (some ⟨b1, 0, none⟩), .pointer (some ⟨b1, 0, none⟩), .pointer (some ⟨b1, 1, none⟩), .int .i64 (w64 (s3.vat + 1)), .int .i64 (w64 ((w64 (s3.vat + 1)) - 1)), .pointer (some ⟨b1, 0, none⟩), .pointer (some ⟨b1, 0, none⟩), .pointer (some ⟨b1, 0, none⟩), .slice A4 s3.L.length c5, .int .i64 (s3.L.length : Int), .int .i64 (w64 (Int.tdiv (w64 ((w64 (s3.vat + 1)) - 1)) (s3.L.length : Int))), undef, undef, undef, undef, undef, undef, undef, undef, undef, undef, undef, undef, undef, undef, undef], []⟩) rfl (by kernel_rfl) (by kernel_rfl) (by kernel_rfl) hnp (Sg.g0 (Sx.of [] (FM.le.refl _) HS36)) ?_
    refine doneG (by kernel_rfl) ?_ _
    refine hK34 _ _ ?_
    refine wp_seq_k (fun K37 hK38 => ?_)
    refine wp_region_lit ?_
    refine seqL3 (by kernel_rfl) ?_
    refine seqK rfl (does_run (run_load rfl Try.underlying40 rfl (by kernel_rfl : _ = Value.pointer (some ⟨b1, 0, none⟩)) (HS36.cell 0)) ?_)
    have hq_ := guard_some h; clear h; obtain ⟨c39, h⟩ := hq_
    have c39 : 0 ≤ (Int.tmod (w64 ((w64 (s3.vat + 1)) - 1)) (s3.L.length : Int)) := c39
    have hq_ := guard_some h; clear h; obtain ⟨c40, h⟩ := hq_
    have c40 : (Int.tmod (w64 ((w64 (s3.vat + 1)) - 1)) (s3.L.length : Int)) < (s3.L.length : Int) := c40
    obtain ⟨b44, of45, cs41, rfl, hr42, hc43⟩ := HR6.at (i := Int.tmod (w64 ((w64 (s3.vat + 1)) - 1)) (s3.L.length : Int)) c39 c40
    obtain rfl := hr42
    refine seqL1 (by kernel_rfl) ?_
    refine seqK rfl (does_run (run_index (sz := 1) rfl Try.underlying40 (by kernel_rfl) (by kernel_rfl : _ = Value.slice (some ⟨b44, of45, none⟩) s3.L.length c5) (by kernel_rfl : _ = Value.int .i64 (Int.tmod (w64 ((w64 (s3.vat + 1)) - 1)) (s3.L.length : Int))) c39 c40 W35) ?_)
    refine seqK rfl (does_run (run_load rfl Try.underlying3 rfl (by kernel_rfl : _ = Value.pointer (some ⟨b44, of45 + (Int.tmod (w64 ((w64 (s3.vat + 1)) - 1)) (s3.L.length : Int) : Int).toNat * 1, none⟩)) ((hc43 (FM.le.refl _) HS36) 0 (by decide))) ?_)
    have hq_ := bind_some h; clear h; obtain ⟨vt46, hc47, h⟩ := hq_
    refine seqK rfl (does_call (f := 24) (args := #[.int .i64 (rd s3.L (Int.tmod (w64 ((w64 (s3.vat + 1)) - 1)) (s3.L.length : Int))), .int .i64 1073741824]) (by kernel_rfl) (spymake_Below.calls k (rd s3.L (Int.tmod (w64 ((w64 (s3.vat + 1)) - 1)) (s3.L.length : Int))) 1073741824 HS36 vt46 hc47) ?_)
    rintro _ W50 ⟨f48, rfl, L49, HS51⟩
    refine ⟨_, rfl, ?_⟩
    have hq_ := bind_some h; clear h; obtain ⟨vt52, hc53, h⟩ := hq_
    refine seqL6 (by kernel_rfl) ?_
    refine seqK rfl (does_call (f := 24) (args := #[.int .i64 (w64 (vt46 + (w64 ((w64 (Int.tdiv (w64 ((w64 (s3.vat + 1)) - 1)) (s3.L.length : Int))) * (w64 (7919 + (Int.tmod (w64 ((w64 (s3.vat + 1)) - 1)) (s3.L.length : Int)))))))), .int .i64 n7]) (by kernel_rfl) (spymake_Below.calls k (w64 (vt46 + (w64 ((w64 (Int.tdiv (w64 ((w64 (s3.vat + 1)) - 1)) (s3.L.length : Int))) * (w64 (7919 + (Int.tmod (w64 ((w64 (s3.vat + 1)) - 1)) (s3.L.length : Int)))))))) n7 HS51 vt52 hc53) ?_)
    rintro _ W56 ⟨f54, rfl, L55, HS57⟩
    refine ⟨_, rfl, ?_⟩
    refine seqS1 (a' := ⟨#[.pointer (some ⟨b1, 0, none⟩), .int .i64 n7, undef, undef, .int .i64 vt52, .int .i64 (Int.tmod (w64 ((w64 (s3.vat + 1)) - 1)) (s3.L.length : Int)), .int .i64 (w64 (Int.tdiv (w64 ((w64 (s3.vat + 1)) - 1)) (s3.L.length : Int))), .pointer (some ⟨b1, 0, none⟩), .pointer (some ⟨b1, 0, none⟩), .pointer (some ⟨b1, 1, none⟩), .int .i64 s3.vat, .int .i64 (w64 (s3.vat + 1)), .pointer (some ⟨b1, 0, none⟩), .pointer (some ⟨b1, 1, none⟩), .pointer (some ⟨b1, 0, none⟩), .pointer (some ⟨b1, 0, none⟩), .pointer (some ⟨b1, 0, none⟩), .slice (some ⟨b44, of45, none⟩) s3.L.length c5, .int .i64 (s3.L.length : Int), .bool false, undef, undef, undef, undef, undef, undef, undef, .pointer (some ⟨b1, 0, none⟩), .pointer (some ⟨b1, 0, none⟩), .pointer (some ⟨b1, 1, none⟩), .int .i64 (w64 (s3.vat + 1)), .int .i64 (w64 ((w64 (s3.vat + 1)) - 1)), .pointer (some ⟨b1, 0, none⟩), .pointer (some ⟨b1, 0, none⟩), .pointer (some ⟨b1, 0, none⟩), .slice (some ⟨b44, of45, none⟩) s3.L.length c5, .int .i64 (s3.L.length : Int), .int .i64 (Int.tmod (w64 ((w64 (s3.vat + 1)) - 1)) (s3.L.length : Int)), .pointer (some ⟨b1, 0, none⟩), .pointer (some ⟨b1, 0, none⟩), .pointer (some ⟨b1, 1, none⟩), .int .i64 (w64 (s3.vat + 1)), .int .i64 (w64 ((w64 (s3.vat + 1)) - 1)), .pointer (some ⟨b1, 0, none⟩), .pointer (some ⟨b1, 0, none⟩), .pointer (some ⟨b1, 0, none⟩), .slice (some ⟨b44, of45, none⟩) s3.L.length c5, .int .i64 (s3.L.length : Int), .int .i64 (w64 (Int.tdiv (w64 ((w64 (s3.vat + 1)) - 1)) (s3.L.length : Int))), .pointer (some ⟨b1, 0, none⟩), .pointer (some ⟨b1, 0, none⟩), .pointer (some ⟨b1, 0, none⟩), .slice (some ⟨b44, of45, none⟩) s3.L.length c5, .int .i64 (Int.tmod (w64 ((w64 (s3.vat + 1)) - 1)) (s3.L.length : Int)), .pointer (some ⟨b44, of45 + (Int.tmod (w64 ((w64 (s3.vat + 1)) - 1)) (s3.L.length : Int) : Int).toNat * 1, none⟩), .int .i64 (rd s3.L (Int.tmod (w64 ((w64 (s3.vat + 1)) - 1)) (s3.L.length : Int))), .int .i64 vt46, .int .i64 (w64 (Int.tdiv (w64 ((w64 (s3.vat + 1)) - 1)) (s3.L.length : Int))), .int .i64 (Int.tmod (w64 ((w64 (s3.vat + 1)) - 1)) (s3.L.length : Int)), .int .i64 (w64 (7919 + (Int.tmod (w64 ((w64 (s3.vat + 1)) - 1)) (s3.L.length : Int)))), .int .i64 (w64 ((w64 (Int.tdiv (w64 ((w64 (s3.vat + 1)) - 1)) (s3.L.length : Int))) * (w64 (7919 + (Int.tmod (w64 ((w64 (s3.vat + 1)) - 1)) (s3.L.length : Int)))))), .int .i64 (w64 (vt46 + (w64 ((w64 (Int.tdiv (w64 ((w64 (s3.vat + 1)) - 1)) (s3.L.length : Int))) * (w64 (7919 + (Int.tmod (w64 ((w64 (s3.vat + 1)) - 1)) (s3.L.length : Int)))))))), .int .i64 n7, .int .i64 vt52], []⟩) (by kernel_rfl) ?_
    refine wpList_nil ?_
    refine hK38 _ _ ?_
    refine wp_ret ?_
    refine hret _ _ ?_
    refine ends_still (v := Value.int .i64 vt52) (by kernel_rfl) (by kernel_rfl) ?_
    injection h with h
    injection h with h0_ h
    subst h0_ h
    exact ⟨f54, rfl, (L49.trans L55), HS57⟩

set_option maxRecDepth 100000 in
set_option maxHeartbeats 4000000 in
theorem spymake_Stream_Range.calls (k : Nat) (b1 : Nat) (A4 : Option Addr) (c5 : Nat) (s3 : S_Stream) (low7 : Int) (high8 : Int) {t w : World} {f : FM} {H : List Seg} (HS : St t w f ([(b1, .cells #[.slice A4 s3.L.length c5, .int .i64 s3.vat] 43 (0, 0))] :: H)) (HR6 : SlR (tInt .i64) f A4 c5 s3.L) (r1 : Int) (r2 : Int) (h : spymake_Stream_Range k s3 low7 high8 = some (r1, r2)) :
    Calls Try.prog 43 #[.pointer (some ⟨b1, 0, none⟩), .int .i64 low7, .int .i64 high8] w (fun e w' => ∃ (g : FM), e = .returned (Value.int .i64 r1) ∧ FM.le f g ∧ St t w' g ([(b1, .cells #[.slice A4 s3.L.length c5, .int .i64 r2] 43 (0, 0))] :: H)) := by
  unfold spymake_Stream_Range at h
  refine enter Try.func43 rfl (tm := #[.pointer (some ⟨b1, 0, none⟩), .int .i64 low7, .int .i64 high8, undef, undef, undef, undef, undef, undef, undef, undef, undef, undef, undef, undef, undef, undef, undef, undef]) (by kernel_rfl) ?_
  intro B hret hnor hnp
  refine wp_seq_k (fun K9 hK10 => ?_)
  refine wp_region_lit ?_
  refine seqS1 (a' := ⟨#[.pointer (some ⟨b1, 0, none⟩), .int .i64 low7, .int .i64 high8, undef, undef, undef, .int .i64 0, undef, undef, undef, undef, undef, undef, undef, undef, undef, undef, undef, undef], []⟩) (by kernel_rfl) ?_
  refine wpList_nil ?_
  refine hK10 _ _ ?_
  refine wp_seq_k (fun K11 hK12 => ?_)
  refine wp_seq_k (fun K13 hK14 => ?_)
  refine wp_region_lit ?_
  refine seqS3 (a' := ⟨#[.pointer (some ⟨b1, 0, none⟩), .int .i64 low7, .int .i64 high8, undef, undef, undef, .int .i64 0, .int .i64 high8, .int .i64 low7, .bool (decide (high8 < low7)), undef, undef, undef, undef, undef, undef, undef, undef, undef], []⟩) (by kernel_rfl) ?_
  refine wpList_nil ?_
  refine hK14 _ _ ?_
  have hq_ := ite_some h; clear h; rcases hq_ with ⟨c16, h⟩ | ⟨c16, h⟩
  · have c16 : high8 < low7 := c16
    refine wpRwI 9 (x := (decide (high8 < low7))) (v := true) (by kernel_rfl) (decide_eq_true c16) ?_
    refine condT (by kernel_rfl) ?_
    refine wp_seq_k (fun K17 hK18 => ?_)
    refine wp_region_lit ?_
    refine seqS2 (a' := ⟨#[.pointer (some ⟨b1, 0, none⟩), .int .i64 low7, .int .i64 high8, undef, undef, undef, .int .i64 low7, .int .i64 high8, .int .i64 low7, .bool true, .int .i64 low7, undef, undef, undef, undef, undef, undef, undef, undef], []⟩) (by kernel_rfl) ?_
    refine wpList_nil ?_
    refine hK18 _ _ ?_
    refine wp_ret ?_
    refine hret _ _ ?_
    refine ends_still (v := Value.int .i64 low7) (by kernel_rfl) (by kernel_rfl) ?_
    injection h with h
    injection h with h0_ h
    subst h0_ h
    exact ⟨f, rfl, FM.le.refl _, HS⟩
  · have c16 : ¬ (high8 < low7) := c16
    refine wpRwI 9 (x := (decide (high8 < low7))) (v := false) (by kernel_rfl) (decide_eq_false c16) ?_
    refine condF (by kernel_rfl) ?_
    refine wp_skip ?_
    refine hK12 _ _ ?_
    refine wp_seq_k (fun K19 hK20 => ?_)
    refine wp_region_lit ?_
    have hq_ := bind_some h; clear h; obtain ⟨⟨vt21, vt22⟩, hc23, h⟩ := hq_
    refine seqL6 (by kernel_rfl) ?_
    refine seqK rfl (does_call (f := 25) (args := #[.pointer (some ⟨b1, 0, none⟩), .int .i64 (w64 ((w64 (high8 - low7)) + 1))]) (by kernel_rfl) (spymake_Stream_Next.calls k b1 A4 c5 s3 (w64 ((w64 (high8 - low7)) + 1)) HS HR6 vt21 vt22 hc23) ?_)
    rintro _ W26 ⟨f24, rfl, L25, HS27⟩
    refine ⟨_, rfl, ?_⟩
    refine seqS2 (a' := ⟨#[.pointer (some ⟨b1, 0, none⟩), .int .i64 low7, .int .i64 high8, undef, undef, undef, .int .i64 (w64 (low7 + vt21)), .int .i64 high8, .int .i64 low7, .bool false, undef, .int .i64 low7, .pointer (some ⟨b1, 0, none⟩), .int .i64 high8, .int .i64 low7, .int .i64 (w64 (high8 - low7)), .int .i64 (w64 ((w64 (high8 - low7)) + 1)), .int .i64 vt21, .int .i64 (w64 (low7 + vt21))], []⟩) (by kernel_rfl) ?_
    refine wpList_nil ?_
    refine hK20 _ _ ?_
    refine wp_ret ?_
    refine hret _ _ ?_
    refine ends_still (v := Value.int .i64 (w64 (low7 + vt21))) (by kernel_rfl) (by kernel_rfl) ?_
    injection h with h
    injection h with h0_ h
    subst h0_ h
    exact ⟨f24, rfl, L25, HS27⟩

set_option maxRecDepth 100000 in
set_option maxHeartbeats 4000000 in
theorem spymake_Stream_Sensor.calls (k : Nat) (b1 : Nat) (A4 : Option Addr) (c5 : Nat) (s3 : S_Stream) (most7 : Int) {t w : World} {f : FM} {H : List Seg} (HS : St t w f ([(b1, .cells #[.slice A4 s3.L.length c5, .int .i64 s3.vat] 43 (0, 0))] :: H)) (HR6 : SlR (tInt .i64) f A4 c5 s3.L) (r1 : S_Sensor) (r2 : Int) (h : spymake_Stream_Sensor k s3 most7 = some (r1, r2)) :
    Calls Try.prog 19 #[.pointer (some ⟨b1, 0, none⟩), .int .i64 most7] w (fun e w' => ∃ (g : FM) (A578 : Option Addr) (c579 : Nat) (s580 : Seg) (A581 : Option Addr) (c582 : Nat) (s583 : Seg) (A584 : Option Addr) (c585 : Nat) (s586 : Seg), e = .returned (Value.agg #[.int .i64 r1.W, .int .i64 r1.H, .slice A578 r1.Bias.length c579, .slice A581 r1.Dark.length c582, .slice A584 r1.Flat.length c585, .int .i64 r1.Full, .int .i64 r1.Gain, .int .i64 r1.Noise]) ∧ FM.le f g ∧ St t w' g (s580 :: s583 :: s586 :: [(b1, .cells #[.slice A4 s3.L.length c5, .int .i64 r2] 43 (0, 0))] :: H) ∧ Own (tInt .i64) 3 g A578 c579 s580 r1.Bias ∧ Own (tInt .i64) 25 g A581 c582 s583 r1.Dark ∧ Own (tInt .i64) 3 g A584 c585 s586 r1.Flat) := by
  unfold spymake_Stream_Sensor at h
  refine enter Try.func19 rfl (tm := #[.pointer (some ⟨b1, 0, none⟩), .int .i64 most7, undef, undef, undef, undef, undef, undef, undef, undef, undef, undef, undef, undef, undef, undef, undef, undef, undef, undef, undef, undef, undef, undef, undef, undef, undef, undef, undef, undef, undef, undef, undef, undef, undef, undef, undef, undef, undef, undef, undef, undef, undef, undef, undef, undef, undef, undef, undef, undef, undef, undef, undef, undef, undef, undef, undef, undef, undef, undef, undef, undef, undef, undef, undef, undef, undef, undef, undef, undef, undef, undef, undef, undef, undef, undef, undef, undef, undef, undef]) (by kernel_rfl) ?_
  intro B hret hnor hnp
  refine wp_seq_k (fun K8 hK9 => ?_)
  refine wp_region_lit ?_
  refine seqK rfl (does_alloc (z := Value.agg #[.int .i64 0, .int .i64 0, .slice none 0 0, .slice none 0 0, .slice none 0 0, .int .i64 0, .int .i64 0, .int .i64 0]) (cs := #[.int .i64 0, .int .i64 0, .slice none 0 0, .slice none 0 0, .slice none 0 0, .int .i64 0, .int .i64 0, .int .i64 0]) rfl (by kernel_rfl) rfl HS ?_)
  intro b10 W11 HS12
  refine wpList_nil ?_
  refine hK9 _ _ ?_
  refine wp_seq_k (fun K14 hK15 => ?_)
  refine wp_region_lit ?_
  have HS16 := HS12.u1
  have hq_ := bind_some h; clear h; obtain ⟨⟨vt17, vt18⟩, hc19, h⟩ := hq_
  refine seqL2 (by kernel_rfl) ?_
  refine seqK rfl (does_call (f := 43) (args := #[.pointer (some ⟨b1, 0, none⟩), .int .i64 1, .int .i64 most7]) (by kernel_rfl) (spymake_Stream_Range.calls k b1 A4 c5 s3 1 most7 HS16 HR6 vt17 vt18 hc19) ?_)
  rintro _ W22 ⟨f20, rfl, L21, HS23⟩
  refine ⟨_, rfl, ?_⟩
  have hq_ := bind_some h; clear h; obtain ⟨⟨vt24, vt25⟩, hc26, h⟩ := hq_
  refine seqL2 (by kernel_rfl) ?_
  refine seqK rfl (does_call (f := 43) (args := #[.pointer (some ⟨b1, 0, none⟩), .int .i64 1, .int .i64 most7]) (by kernel_rfl) (spymake_Stream_Range.calls k b1 A4 c5 (⟨s3.L, vt18⟩ : S_Stream) 1 most7 HS23 (HR6.mono L21) vt24 vt25 hc26) ?_)
  rintro _ W29 ⟨f27, rfl, L28, HS30⟩
  refine ⟨_, rfl, ?_⟩
  have hq_ := bind_some h; clear h; obtain ⟨⟨vt31, vt32⟩, hc33, h⟩ := hq_
  refine seqL1 (by kernel_rfl) ?_
  refine seqK rfl (does_call (f := 43) (args := #[.pointer (some ⟨b1, 0, none⟩), .int .i64 20000, .int .i64 1048576]) (by kernel_rfl) (spymake_Stream_Range.calls k b1 A4 c5 (⟨s3.L, vt25⟩ : S_Stream) 20000 1048576 HS30 (HR6.mono (L21.trans L28)) vt31 vt32 hc33) ?_)
  rintro _ W36 ⟨f34, rfl, L35, HS37⟩
  refine ⟨_, rfl, ?_⟩
  have hq_ := bind_some h; clear h; obtain ⟨⟨vt38, vt39⟩, hc40, h⟩ := hq_
  refine seqL1 (by kernel_rfl) ?_
  refine seqK rfl (does_call (f := 43) (args := #[.pointer (some ⟨b1, 0, none⟩), .int .i64 1, .int .i64 4]) (by kernel_rfl) (spymake_Stream_Range.calls k b1 A4 c5 (⟨s3.L, vt32⟩ : S_Stream) 1 4 HS37 (HR6.mono (L21.trans (L28.trans L35))) vt38 vt39 hc40) ?_)
  rintro _ W43 ⟨f41, rfl, L42, HS44⟩
  refine ⟨_, rfl, ?_⟩
  have hq_ := bind_some h; clear h; obtain ⟨⟨vt45, vt46⟩, hc47, h⟩ := hq_
  refine seqL1 (by kernel_rfl) ?_
  refine seqK rfl (does_call (f := 25) (args := #[.pointer (some ⟨b1, 0, none⟩), .int .i64 4]) (by kernel_rfl) (spymake_Stream_Next.calls k b1 A4 c5 (⟨s3.L, vt39⟩ : S_Stream) 4 HS44 (HR6.mono (L21.trans (L28.trans (L35.trans L42)))) vt45 vt46 hc47) ?_)
  rintro _ W50 ⟨f48, rfl, L49, HS51⟩
  refine ⟨_, rfl, ?_⟩
  refine seqL1 (by kernel_rfl) ?_
  refine seqK rfl (does_alloc (z := Value.agg #[.int .i64 0, .int .i64 0, .slice none 0 0, .slice none 0 0, .slice none 0 0, .int .i64 0, .int .i64 0, .int .i64 0]) (cs := #[.int .i64 0, .int .i64 0, .slice none 0 0, .slice none 0 0, .slice none 0 0, .int .i64 0, .int .i64 0, .int .i64 0]) rfl (by kernel_rfl) rfl HS51 ?_)
  intro b52 W53 HS54
  refine seqK rfl (does_store (n := 8) (vs := [.int .i64 vt17, .int .i64 vt24, .slice none 0 0, .slice none 0 0, .slice none 0 0, .int .i64 vt31, .int .i64 vt38, .int .i64 vt45]) (cs' := #[.int .i64 vt17, .int .i64 vt24, .slice none 0 0, .slice none 0 0, .slice none 0 0, .int .i64 vt31, .int .i64 vt38, .int .i64 vt45]) rfl (by kernel_rfl) (by kernel_rfl : _ = Value.pointer (some ⟨b52, 0, none⟩)) (by kernel_rfl : _ = Value.agg #[.int .i64 vt17, .int .i64 vt24, .slice none 0 0, .slice none 0 0, .slice none 0 0, .int .i64 vt31, .int .i64 vt38, .int .i64 vt45]) rfl rfl (by intro u_ hu_; simp only [List.mem_cons, List.not_mem_nil, or_false] at hu_; rcases hu_ with rfl | rfl | rfl | rfl | rfl | rfl | rfl | rfl <;> rfl) HS54 (Nat.le_of_ble_eq_true rfl) (by kernel_rfl) ?_)
  intro W56 HS57
  refine wpList_nil ?_
  refine hK15 _ _ ?_
  refine wp_seq_k (fun K58 hK59 => ?_)
  refine wp_seq_k (fun K60 hK61 => ?_)
  refine wp_region_lit ?_
  have HS62 := HS57.u1
  have hq_ := bind_some h; clear h; obtain ⟨⟨vt63, vt64⟩, hc65, h⟩ := hq_
  refine seqL1 (by kernel_rfl) ?_
  refine seqK rfl (does_call (f := 25) (args := #[.pointer (some ⟨b1, 0, none⟩), .int .i64 6]) (by kernel_rfl) (spymake_Stream_Next.calls k b1 A4 c5 (⟨s3.L, vt46⟩ : S_Stream) 6 HS62 (HR6.mono (L21.trans (L28.trans (L35.trans (L42.trans L49))))) vt63 vt64 hc65) ?_)
  rintro _ W68 ⟨f66, rfl, L67, HS69⟩
  refine ⟨_, rfl, ?_⟩
  refine wpList_nil ?_
  refine hK61 _ _ ?_
  refine blockK (fun B70 hx71 hn72 hr73 ho74 hp75 => ?_)
  refine wp_seq_k (fun K77 hK78 => ?_)
  refine wp_region_lit ?_
  refine seqS2 (a' := ⟨#[.pointer (some ⟨b1, 0, none⟩), .int .i64 most7, undef, undef, .pointer (some ⟨b10, 0, none⟩), .pointer (some ⟨b52, 0, none⟩), undef, undef, .pointer (some ⟨b1, 0, none⟩), .int .i64 most7, .int .i64 vt17, .pointer (some ⟨b1, 0, none⟩), .int .i64 most7, .int .i64 vt24, .pointer (some ⟨b1, 0, none⟩), .int .i64 vt31, .pointer (some ⟨b1, 0, none⟩), .int .i64 vt38, .pointer (some ⟨b1, 0, none⟩), .int .i64 vt45, .agg #[.int .i64 vt17, .int .i64 vt24, .slice none 0 0, .slice none 0 0, .slice none 0 0, .int .i64 vt31, .int .i64 vt38, .int .i64 vt45], .pointer (some ⟨b1, 0, none⟩), .int .i64 vt63, .bool (vt63 == 0), .bool (vt63 == 0), undef, undef, undef, undef, undef, undef, undef, undef, undef, undef, undef, undef, undef, undef, undef, undef, undef, undef, undef, undef, undef, undef, undef, undef, undef, undef, undef, undef, undef, undef, undef, undef, undef, undef, undef, undef, undef, undef, undef, undef, undef, undef, undef, undef, undef, undef, undef, undef, undef, undef, undef, undef, undef, undef, undef], []⟩) (by kernel_rfl) ?_
  refine wpList_nil ?_
  refine hK78 _ _ ?_
  have hq_ := bind_some h; clear h; obtain ⟨v79, hv137, h⟩ := hq_
  have J138 : ∀ (f128 : FM) (x133 : Int) (x134 : Int) (x135 : Int) (x136 : Int) (j132 : Nat → Value) (W130 : World) (a_ : Act), FM.le f66 f128 → some ((x133, x134, x135, x136)) = some v79 → St t W130 f128 ([(b1, .cells #[.slice A4 s3.L.length c5, .int .i64 x133] 43 (0, 0))] :: [(b52, .cells #[.int .i64 vt17, .int .i64 vt24, .slice none 0 0, .slice none 0 0, .slice none 0 0, .int .i64 x134, .int .i64 x135, .int .i64 x136] 46 (0, 0))] :: [(b10, .cells #[.int .i64 0, .int .i64 0, .slice none 0 0, .slice none 0 0, .slice none 0 0, .int .i64 0, .int .i64 0, .int .i64 0] 46 (0, 0))] :: H) → a_ = ⟨#[.pointer (some ⟨b1, 0, none⟩), .int .i64 most7, undef, undef, .pointer (some ⟨b10, 0, none⟩), .pointer (some ⟨b52, 0, none⟩), undef, undef, .pointer (some ⟨b1, 0, none⟩), .int .i64 most7, .int .i64 vt17, .pointer (some ⟨b1, 0, none⟩), .int .i64 most7, .int .i64 vt24, .pointer (some ⟨b1, 0, none⟩), .int .i64 vt31, .pointer (some ⟨b1, 0, none⟩), .int .i64 vt38, .pointer (some ⟨b1, 0, none⟩), .int .i64 vt45, .agg #[.int .i64 vt17, .int .i64 vt24, .slice none 0 0, .slice none 0 0, .slice none 0 0, .int .i64 vt31, .int .i64 vt38, .int .i64 vt45], .pointer (some ⟨b1, 0, none⟩), .int .i64 vt63, (j132 0), (j132 1), (j132 2), (j132 3), (j132 4), (j132 5), (j132 6), (j132 7), (j132 8), (j132 9), (j132 10), (j132 11), (j132 12), undef, undef, undef, undef, undef, undef, undef, undef, undef, undef, undef, undef, undef, undef, undef, undef, undef, undef, undef, undef, undef, undef, undef, undef, undef, undef, undef, undef, undef, undef, undef, undef, undef, undef, undef, undef, undef, undef, undef, undef, undef, undef, undef, undef], []⟩ → B70 Exit.normal a_ W130 := by
    intro f128 x133 x134 x135 x136 j132 W130 a_ L129 hj139 HS131  hfr_; subst hfr_
    injection hj139 with hj139; subst hj139; try dsimp only at h
    refine hn72 _ _ ?_
    refine hK59 _ _ ?_
    refine wp_seq_k (fun K143 hK144 => ?_)
    refine wp_region_lit ?_
    have hq_ := bind_some h; clear h; obtain ⟨⟨vt145, vt146⟩, hc147, h⟩ := hq_
    refine seqL1 (by kernel_rfl) ?_
    refine seqK rfl (does_call (f := 25) (args := #[.pointer (some ⟨b1, 0, none⟩), .int .i64 3]) (by kernel_rfl) (spymake_Stream_Next.calls k b1 A4 c5 (⟨s3.L, x133⟩ : S_Stream) 3 HS131 (HR6.mono (L21.trans (L28.trans (L35.trans (L42.trans (L49.trans (L67.trans L129))))))) vt145 vt146 hc147) ?_)
    rintro _ W150 ⟨f148, rfl, L149, HS151⟩
    refine ⟨_, rfl, ?_⟩
    refine seqS1 (a' := ⟨#[.pointer (some ⟨b1, 0, none⟩), .int .i64 most7, undef, undef, .pointer (some ⟨b10, 0, none⟩), .pointer (some ⟨b52, 0, none⟩), .int .i64 vt145, undef, .pointer (some ⟨b1, 0, none⟩), .int .i64 most7, .int .i64 vt17, .pointer (some ⟨b1, 0, none⟩), .int .i64 most7, .int .i64 vt24, .pointer (some ⟨b1, 0, none⟩), .int .i64 vt31, .pointer (some ⟨b1, 0, none⟩), .int .i64 vt38, .pointer (some ⟨b1, 0, none⟩), .int .i64 vt45, .agg #[.int .i64 vt17, .int .i64 vt24, .slice none 0 0, .slice none 0 0, .slice none 0 0, .int .i64 vt31, .int .i64 vt38, .int .i64 vt45], .pointer (some ⟨b1, 0, none⟩), .int .i64 vt63, (j132 0), (j132 1), (j132 2), (j132 3), (j132 4), (j132 5), (j132 6), (j132 7), (j132 8), (j132 9), (j132 10), (j132 11), (j132 12), .pointer (some ⟨b1, 0, none⟩), .int .i64 vt145, undef, undef, undef, undef, undef, undef, undef, undef, undef, undef, undef, undef, undef, undef, undef, undef, undef, undef, undef, undef, undef, undef, undef, undef, undef, undef, undef, undef, undef, undef, undef, undef, undef, undef, undef, undef, undef, undef, undef, undef, undef, undef], []⟩) (by kernel_rfl) ?_
    refine wpList_nil ?_
    refine hK144 _ _ ?_
    refine wp_seq_k (fun K152 hK153 => ?_)
    refine wp_seq_k (fun K154 hK155 => ?_)
    refine wp_region_lit ?_
    refine seqL1 (by kernel_rfl) ?_
    refine seqK rfl (does_run (run_load rfl Try.underlying3 rfl (by kernel_rfl : _ = Value.pointer (some ⟨b52, 0, none⟩)) (HS151.u1.cell 0)) ?_)
    refine seqL1 (by kernel_rfl) ?_
    refine seqK rfl (does_run (run_load rfl Try.underlying3 rfl (by kernel_rfl : _ = Value.pointer (some ⟨b52, 1, none⟩)) (HS151.u1.cell 1)) ?_)
    refine seqS2 (a' := ⟨#[.pointer (some ⟨b1, 0, none⟩), .int .i64 most7, undef, undef, .pointer (some ⟨b10, 0, none⟩), .pointer (some ⟨b52, 0, none⟩), .int .i64 vt145, undef, .pointer (some ⟨b1, 0, none⟩), .int .i64 most7, .int .i64 vt17, .pointer (some ⟨b1, 0, none⟩), .int .i64 most7, .int .i64 vt24, .pointer (some ⟨b1, 0, none⟩), .int .i64 vt31, .pointer (some ⟨b1, 0, none⟩), .int .i64 vt38, .pointer (some ⟨b1, 0, none⟩), .int .i64 vt45, .agg #[.int .i64 vt17, .int .i64 vt24, .slice none 0 0, .slice none 0 0, .slice none 0 0, .int .i64 vt31, .int .i64 vt38, .int .i64 vt45], .pointer (some ⟨b1, 0, none⟩), .int .i64 vt63, (j132 0), (j132 1), (j132 2), (j132 3), (j132 4), (j132 5), (j132 6), (j132 7), (j132 8), (j132 9), (j132 10), (j132 11), (j132 12), .pointer (some ⟨b1, 0, none⟩), .int .i64 vt145, .pointer (some ⟨b52, 0, none⟩), .int .i64 vt17, .pointer (some ⟨b52, 1, none⟩), .int .i64 vt24, .int .i64 (w64 (vt17 * vt24)), .int .i64 0, undef, undef, undef, undef, undef, undef, undef, undef, undef, undef, undef, undef, undef, undef, undef, undef, undef, undef, undef, undef, undef, undef, undef, undef, undef, undef, undef, undef, undef, undef, undef, undef, undef, undef, undef, undef], []⟩) (by kernel_rfl) ?_
    refine wpList_nil ?_
    refine hK155 _ _ ?_
    refine blockK (fun B156 hx157 hn158 hr159 ho160 hp161 => ?_)
    have hq_ := bind_some h; clear h; obtain ⟨o331, hv544, h⟩ := hq_
    have J545 : ∀ (f520 : FM) (A527 : Option Addr) (c528 : Nat) (s529 : Seg) (A533 : Option Addr) (c534 : Nat) (s535 : Seg) (A539 : Option Addr) (c540 : Nat) (s541 : Seg) (x525 : Int) (x526 : List Int) (x532 : List Int) (x538 : List Int) (j524 : Nat → Value) (W522 : World) (a_ : Act), FM.le f148 f520 → some ((x525, x526, x532, x538)) = some o331 → St t W522 f520 (s541 :: s535 :: s529 :: [(b1, .cells #[.slice A4 s3.L.length c5, .int .i64 x525] 43 (0, 0))] :: [(b52, .cells #[.int .i64 vt17, .int .i64 vt24, .slice A527 x526.length c528, .slice A533 x532.length c534, .slice A539 x538.length c540, .int .i64 x134, .int .i64 x135, .int .i64 x136] 46 (0, 0))] :: [(b10, .cells #[.int .i64 0, .int .i64 0, .slice none 0 0, .slice none 0 0, .slice none 0 0, .int .i64 0, .int .i64 0, .int .i64 0] 46 (0, 0))] :: H) → Own (tInt .i64) 3 f520 A527 c528 s529 x526 → Own (tInt .i64) 25 f520 A533 c534 s535 x532 → Own (tInt .i64) 3 f520 A539 c540 s541 x538 → a_ = ⟨#[.pointer (some ⟨b1, 0, none⟩), .int .i64 most7, undef, undef, .pointer (some ⟨b10, 0, none⟩), .pointer (some ⟨b52, 0, none⟩), .int .i64 vt145, (j524 0), .pointer (some ⟨b1, 0, none⟩), .int .i64 most7, .int .i64 vt17, .pointer (some ⟨b1, 0, none⟩), .int .i64 most7, .int .i64 vt24, .pointer (some ⟨b1, 0, none⟩), .int .i64 vt31, .pointer (some ⟨b1, 0, none⟩), .int .i64 vt38, .pointer (some ⟨b1, 0, none⟩), .int .i64 vt45, .agg #[.int .i64 vt17, .int .i64 vt24, .slice none 0 0, .slice none 0 0, .slice none 0 0, .int .i64 vt31, .int .i64 vt38, .int .i64 vt45], .pointer (some ⟨b1, 0, none⟩), .int .i64 vt63, (j132 0), (j132 1), (j132 2), (j132 3), (j132 4), (j132 5), (j132 6), (j132 7), (j132 8), (j132 9), (j132 10), (j132 11), (j132 12), .pointer (some ⟨b1, 0, none⟩), .int .i64 vt145, .pointer (some ⟨b52, 0, none⟩), .int .i64 vt17, .pointer (some ⟨b52, 1, none⟩), .int .i64 vt24, .int .i64 (w64 (vt17 * vt24)), (j524 1), (j524 2), (j524 3), (j524 4), (j524 5), (j524 6), (j524 7), (j524 8), (j524 9), (j524 10), (j524 11), (j524 12), (j524 13), (j524 14), (j524 15), (j524 16), (j524 17), (j524 18), (j524 19), (j524 20), (j524 21), (j524 22), (j524 23), (j524 24), (j524 25), (j524 26), (j524 27), (j524 28), (j524 29), (j524 30), (j524 31), (j524 32), (j524 33), (j524 34), (j524 35), (j524 36), undef], []⟩ → K152 a_ W522 := by
      intro f520 A527 c528 s529 A533 c534 s535 A539 c540 s541 x525 x526 x532 x538 j524 W522 a_ L521 hj546 HS523 HO530 HO536 HO542 hfr_; subst hfr_
      injection hj546 with hj546; subst hj546; try dsimp only at h
      refine hK153 _ _ ?_
      refine wp_seq_k (fun K565 hK566 => ?_)
      refine wp_region_lit ?_
      refine seqK rfl (does_run (run_loadN (n := 8) rfl Try.underlying46 rfl (by kernel_rfl) (by kernel_rfl : _ = Value.pointer (some ⟨b52, 0, none⟩)) (cs := [.int .i64 vt17, .int .i64 vt24, .slice A527 x526.length c528, .slice A533 x532.length c534, .slice A539 x538.length c540, .int .i64 x134, .int .i64 x135, .int .i64 x136]) rfl (HS523.u4.cells 0 8 _ rfl)) ?_)
      have HS567 := HS523.u5
      refine seqK rfl (does_store (n := 8) (vs := [.int .i64 vt17, .int .i64 vt24, .slice A527 x526.length c528, .slice A533 x532.length c534, .slice A539 x538.length c540, .int .i64 x134, .int .i64 x135, .int .i64 x136]) (cs' := #[.int .i64 vt17, .int .i64 vt24, .slice A527 x526.length c528, .slice A533 x532.length c534, .slice A539 x538.length c540, .int .i64 x134, .int .i64 x135, .int .i64 x136]) rfl (by kernel_rfl) (by kernel_rfl : _ = Value.pointer (some ⟨b10, 0, none⟩)) (by kernel_rfl : _ = Value.agg #[.int .i64 vt17, .int .i64 vt24, .slice A527 x526.length c528, .slice A533 x532.length c534, .slice A539 x538.length c540, .int .i64 x134, .int .i64 x135, .int .i64 x136]) rfl rfl (by intro u_ hu_; simp only [List.mem_cons, List.not_mem_nil, or_false] at hu_; rcases hu_ with rfl | rfl | rfl | rfl | rfl | rfl | rfl | rfl <;> rfl) HS567 (Nat.le_of_ble_eq_true rfl) (by kernel_rfl) ?_)
      intro W568 HS569
      refine wpList_nil ?_
      refine hK566 _ _ ?_
      refine wp_ret ?_
      refine hret _ _ ?_
      refine ends (v := Value.agg #[.int .i64 vt17, .int .i64 vt24, .slice A527 x526.length c528, .slice A533 x532.length c534, .slice A539 x538.length c540, .int .i64 x134, .int .i64 x135, .int .i64 x136]) (results1 (q1 := .cell 4 46) (by kernel_rfl) (resN (n := 8) (cs := [.int .i64 vt17, .int .i64 vt24, .slice A527 x526.length c528, .slice A533 x532.length c534, .slice A539 x538.length c540, .int .i64 x134, .int .i64 x135, .int .i64 x136]) (by kernel_rfl : _ = Value.pointer (some ⟨b10, 0, none⟩)) Try.underlying46 rfl (by kernel_rfl) rfl (HS569.cells 0 8 _ rfl))) (by kernel_rfl) ?_
      have HS570 := HS569.u4
      have HS571 := HS570.u2
      have HS572 := HS571.u3
      have HS573 := HS572.u4
      have HS574 := HS573.u5
      have HS575 := HS574.u5
      have HS576 := HS575.drop
      have HS577 := HS576.drop
      injection h with h
      injection h with h0_ h
      subst h0_ h
      exact ⟨f520, A527, c528, s529, A533, c534, s535, A539, c540, s541, rfl, (L21.trans (L28.trans (L35.trans (L42.trans (L49.trans (L67.trans (L129.trans (L149.trans L521)))))))), HS577, HO530, HO536, HO542⟩
    clear h; have h := hv544; clear hv544
    have HS547 := HS151.cons_nil
    have HS549 := HS547.cons_nil
    have HS551 := HS549.cons_nil
    refine loopK (fun n_ a_ w_ => ∃ (f335 : FM) (A343 : Option Addr) (c344 : Nat) (s345 : Seg) (A349 : Option Addr) (c350 : Nat) (s351 : Seg) (A355 : Option Addr) (c356 : Nat) (s357 : Seg) (x340 : Int) (x341 : Int) (x342 : List Int) (x348 : List Int) (x354 : List Int) (j339 : Nat → Value), FM.le f148 f335 ∧ St t w_ f335 (s357 :: s351 :: s345 :: [(b1, .cells #[.slice A4 s3.L.length c5, .int .i64 x341] 43 (0, 0))] :: [(b52, .cells #[.int .i64 vt17, .int .i64 vt24, .slice A343 x342.length c344, .slice A349 x348.length c350, .slice A355 x354.length c356, .int .i64 x134, .int .i64 x135, .int .i64 x136] 46 (0, 0))] :: [(b10, .cells #[.int .i64 0, .int .i64 0, .slice none 0 0, .slice none 0 0, .slice none 0 0, .int .i64 0, .int .i64 0, .int .i64 0] 46 (0, 0))] :: H) ∧ Own (tInt .i64) 3 f335 A343 c344 s345 x342 ∧ Own (tInt .i64) 25 f335 A349 c350 s351 x348 ∧ Own (tInt .i64) 3 f335 A355 c356 s357 x354 ∧ spymake_Stream_Sensor.l0 k vt17 vt24 s3 vt145 n_ x340 x341 x342 x348 x354 = some o331 ∧ a_ = ⟨#[.pointer (some ⟨b1, 0, none⟩), .int .i64 most7, undef, undef, .pointer (some ⟨b10, 0, none⟩), .pointer (some ⟨b52, 0, none⟩), .int .i64 vt145, (j339 0), .pointer (some ⟨b1, 0, none⟩), .int .i64 most7, .int .i64 vt17, .pointer (some ⟨b1, 0, none⟩), .int .i64 most7, .int .i64 vt24, .pointer (some ⟨b1, 0, none⟩), .int .i64 vt31, .pointer (some ⟨b1, 0, none⟩), .int .i64 vt38, .pointer (some ⟨b1, 0, none⟩), .int .i64 vt45, .agg #[.int .i64 vt17, .int .i64 vt24, .slice none 0 0, .slice none 0 0, .slice none 0 0, .int .i64 vt31, .int .i64 vt38, .int .i64 vt45], .pointer (some ⟨b1, 0, none⟩), .int .i64 vt63, (j132 0), (j132 1), (j132 2), (j132 3), (j132 4), (j132 5), (j132 6), (j132 7), (j132 8), (j132 9), (j132 10), (j132 11), (j132 12), .pointer (some ⟨b1, 0, none⟩), .int .i64 vt145, .pointer (some ⟨b52, 0, none⟩), .int .i64 vt17, .pointer (some ⟨b52, 1, none⟩), .int .i64 vt24, .int .i64 (w64 (vt17 * vt24)), .int .i64 x340, (j339 1), (j339 2), (j339 3), (j339 4), (j339 5), (j339 6), (j339 7), (j339 8), (j339 9), (j339 10), (j339 11), (j339 12), (j339 13), (j339 14), (j339 15), (j339 16), (j339 17), (j339 18), (j339 19), (j339 20), (j339 21), (j339 22), (j339 23), (j339 24), (j339 25), (j339 26), (j339 27), (j339 28), (j339 29), (j339 30), (j339 31), (j339 32), (j339 33), (j339 34), (j339 35), undef], []⟩) k ⟨f148, none, 0, [], none, 0, [], none, 0, [], 0, vt146, ([] : List Int), ([] : List Int), ([] : List Int), (fun i_ => [undef, undef, undef, undef, undef, undef, undef, undef, undef, undef, undef, undef, undef, undef, undef, undef, undef, undef, undef, undef, undef, undef, undef, undef, undef, undef, undef, undef, undef, undef, undef, undef, undef, undef, undef, undef].getD i_ undef), (FM.le.refl _), HS551, (Own.nil _), (Own.nil _), (Own.nil _), h, (by kernel_rfl)⟩ ?_
    clear h
    rintro n334 _ W337 ⟨f335, A343, c344, s345, A349, c350, s351, A355, c356, s357, x340, x341, x342, x348, x354, j339, L336, HS338, HO346, HO352, HO358, h, rfl⟩ K332 hK333
    obtain _ | n334 := n334
    · exact nomatch h
    simp only [spymake_Stream_Sensor.l0] at h
    refine wp_seq_k (fun K360 hK361 => ?_)
    refine wp_region_lit ?_
    refine seqS1 (a' := ⟨#[.pointer (some ⟨b1, 0, none⟩), .int .i64 most7, undef, undef, .pointer (some ⟨b10, 0, none⟩), .pointer (some ⟨b52, 0, none⟩), .int .i64 vt145, (j339 0), .pointer (some ⟨b1, 0, none⟩), .int .i64 most7, .int .i64 vt17, .pointer (some ⟨b1, 0, none⟩), .int .i64 most7, .int .i64 vt24, .pointer (some ⟨b1, 0, none⟩), .int .i64 vt31, .pointer (some ⟨b1, 0, none⟩), .int .i64 vt38, .pointer (some ⟨b1, 0, none⟩), .int .i64 vt45, .agg #[.int .i64 vt17, .int .i64 vt24, .slice none 0 0, .slice none 0 0, .slice none 0 0, .int .i64 vt31, .int .i64 vt38, .int .i64 vt45], .pointer (some ⟨b1, 0, none⟩), .int .i64 vt63, (j132 0), (j132 1), (j132 2), (j132 3), (j132 4), (j132 5), (j132 6), (j132 7), (j132 8), (j132 9), (j132 10), (j132 11), (j132 12), .pointer (some ⟨b1, 0, none⟩), .int .i64 vt145, .pointer (some ⟨b52, 0, none⟩), .int .i64 vt17, .pointer (some ⟨b52, 1, none⟩), .int .i64 vt24, .int .i64 (w64 (vt17 * vt24)), .int .i64 x340, .bool (decide (x340 < (w64 (vt17 * vt24)))), (j339 2), (j339 3), (j339 4), (j339 5), (j339 6), (j339 7), (j339 8), (j339 9), (j339 10), (j339 11), (j339 12), (j339 13), (j339 14), (j339 15), (j339 16), (j339 17), (j339 18), (j339 19), (j339 20), (j339 21), (j339 22), (j339 23), (j339 24), (j339 25), (j339 26), (j339 27), (j339 28), (j339 29), (j339 30), (j339 31), (j339 32), (j339 33), (j339 34), (j339 35), undef], []⟩) (by kernel_rfl) ?_
    refine wpList_nil ?_
    refine hK361 _ _ ?_
    refine wp_seq_k (fun K362 hK363 => ?_)
    have hq_ := ite_some h; clear h; rcases hq_ with ⟨c365, h⟩ | ⟨c365, h⟩
    · have c365 : x340 < (w64 (vt17 * vt24)) := c365
      refine wpRwI 44 (x := (decide (x340 < (w64 (vt17 * vt24))))) (v := true) (by kernel_rfl) (decide_eq_true c365) ?_
      refine condT (by kernel_rfl) ?_
      refine wp_skip ?_
      refine hK363 _ _ ?_
      refine wp_seq_k (fun K366 hK367 => ?_)
      refine blockK (fun B368 hx369 hn370 hr371 ho372 hp373 => ?_)
      refine wp_seq_k (fun K375 hK376 => ?_)
      have HS377 := HS338.u5
      have HS378 := HS377.u2
      have HS379 := HS378.u2
      have HS380 := HS379.u5
      have HS381 := HS380.u5
      have HS382 := HS381.u5
      refine heldG (S := Sg t f335 (s357 :: s351 :: [(b10, .cells #[.int .i64 0, .int .i64 0, .slice none 0 0, .slice none 0 0, .slice none 0 0, .int .i64 0, .int .i64 0, .int .i64 0] 46 (0, 0))] :: H) [(5, s345), (3, [(b1, .cells #[.slice A4 s3.L.length c5, .int .i64 x341] 43 (0, 0))]), (7, [(b52, .cells #[.int .i64 vt17, .int .i64 vt24, .slice A343 x342.length c344, .slice A349 x348.length c350, .slice A355 x354.length c356, .int .i64 x134, .int .i64 x135, .int .i64 x136] 46 (0, 0))])]) (n := 8) (by kernel_rfl) rfl HS382 ?_
      intro W383 HS384
      refine takeG [0] (n := 8) (fuel := 7) (l' := #[true, false, false, false, false, false, false, false]) (a' := ⟨#[.pointer (some ⟨b1, 0, none⟩), .int .i64 most7, undef, undef, .pointer (some ⟨b10, 0, none⟩), .pointer (some ⟨b52, 0, none⟩), .int .i64 vt145, (j339 0), .pointer (some ⟨b1, 0, none⟩), .int .i64 most7, .int .i64 vt17, .pointer (some ⟨b1, 0, none⟩), .int .i64 most7, .int .i64 vt24, .pointer (some ⟨b1, 0, none⟩), .int .i64 vt31, .pointer (some ⟨b1, 0, none⟩), .int .i64 vt38, .pointer (some ⟨b1, 0, none⟩), .int .i64 vt45, .agg #[.int .i64 vt17, .int .i64 vt24, .slice none 0 0, .slice none 0 0, .slice none 0 0, .int .i64 vt31, .int .i64 vt38, .int .i64 vt45], .pointer (some ⟨b1, 0, none⟩), .int .i64 vt63, (j132 0), (j132 1), (j132 2), (j132 3), (j132 4), (j132 5), (j132 6), (j132 7), (j132 8), (j132 9), (j132 10), (j132 11), (j132 12), .pointer (some ⟨b1, 0, none⟩), .int .i64 vt145, .pointer (some ⟨b52, 0, none⟩), .int .i64 vt17, .pointer (some ⟨b52, 1, none⟩), .int .i64 vt24, .int .i64 (w64 (vt17 * vt24)), .int .i64 x340, .bool true, .pointer (some ⟨b52, 2, none⟩), (j339 3), (j339 4), (j339 5), (j339 6), (j339 7), (j339 8), (j339 9), (j339 10), (j339 11), (j339 12), (j339 13), (j339 14), (j339 15), (j339 16), (j339 17), (j339 18), (j339 19), (j339 20), (j339 21), (j339 22), (j339 23), (j339 24), (j339 25), (j339 26), (j339 27), (j339 28), (j339 29), (j339 30), (j339 31), (j339 32), (j339 33), (j339 34), (j339 35), undef], []⟩) rfl (by kernel_rfl) (by kernel_rfl) (by kernel_rfl) (fun ch_ a_ w_ q_ => (fun ch_ a_ w_ q_ => hnp ch_ a_ w_ (hp161 ch_ a_ w_ q_)) ch_ a_ w_ (hp373 ch_ a_ w_ q_)) (Sg.g3 (Sx.of [s345, [(b1, .cells #[.slice A4 s3.L.length c5, .int .i64 x341] 43 (0, 0))], [(b52, .cells #[.int .i64 vt17, .int .i64 vt24, .slice A343 x342.length c344, .slice A349 x348.length c350, .slice A355 x354.length c356, .int .i64 x134, .int .i64 x135, .int .i64 x136] 46 (0, 0))]] (FM.le.refl _) HS384) (fun _ => St.only [] HS384 (FM.le.refl _)) (fun _ => St.only [s345] HS384 (FM.le.refl _)) (fun _ => St.only [s345, [(b1, .cells #[.slice A4 s3.L.length c5, .int .i64 x341] 43 (0, 0))]] HS384 (FM.le.refl _))) ?_
      refine takeGQ 1 [7] rfl (by kernel_rfl) (by kernel_rfl) (by kernel_rfl) (by kernel_rfl) (by kernel_rfl) (by kernel_rfl) (fun ch_ a_ w_ q_ => (fun ch_ a_ w_ q_ => hnp ch_ a_ w_ (hp161 ch_ a_ w_ q_)) ch_ a_ w_ (hp373 ch_ a_ w_ q_)) (Sg.g3 (Sx.of [s345, [(b1, .cells #[.slice A4 s3.L.length c5, .int .i64 x341] 43 (0, 0))], [(b52, .cells #[.int .i64 vt17, .int .i64 vt24, .slice A343 x342.length c344, .slice A349 x348.length c350, .slice A355 x354.length c356, .int .i64 x134, .int .i64 x135, .int .i64 x136] 46 (0, 0))]] (FM.le.refl _) HS384) (fun _ => St.only [] HS384 (FM.le.refl _)) (fun _ => St.only [s345] HS384 (FM.le.refl _)) (fun _ => St.only [s345, [(b1, .cells #[.slice A4 s3.L.length c5, .int .i64 x341] 43 (0, 0))]] HS384 (FM.le.refl _))) (fun w_ hw_ => by obtain ⟨g_, hl_, hS_⟩ := hw_.seg (j := 7) (s := [(b52, .cells #[.int .i64 vt17, .int .i64 vt24, .slice A343 x342.length c344, .slice A349 x348.length c350, .slice A355 x354.length c356, .int .i64 x134, .int .i64 x135, .int .i64 x136] 46 (0, 0))]) (by simp) (by simp); exact run_load rfl Try.underlying40 rfl (by kernel_rfl : _ = Value.pointer (some ⟨b52, 2, none⟩)) (hS_.cell 2)) ?_
      refine takeG [2] (n := 6) (fuel := 5) (l' := #[true, true, true, false, false, false, false, false]) (a' := ⟨#[.pointer (some ⟨b1, 0, none⟩), .int .i64 most7, undef, undef, .pointer (some ⟨b10, 0, none⟩), .pointer (some ⟨b52, 0, none⟩), .int .i64 vt145, (j339 0), .pointer (some ⟨b1, 0, none⟩), .int .i64 most7, .int .i64 vt17, .pointer (some ⟨b1, 0, none⟩), .int .i64 most7, .int .i64 vt24, .pointer (some ⟨b1, 0, none⟩), .int .i64 vt31, .pointer (some ⟨b1, 0, none⟩), .int .i64 vt38, .pointer (some ⟨b1, 0, none⟩), .int .i64 vt45, .agg #[.int .i64 vt17, .int .i64 vt24, .slice none 0 0, .slice none 0 0, .slice none 0 0, .int .i64 vt31, .int .i64 vt38, .int .i64 vt45], .pointer (some ⟨b1, 0, none⟩), .int .i64 vt63, (j132 0), (j132 1), (j132 2), (j132 3), (j132 4), (j132 5), (j132 6), (j132 7), (j132 8), (j132 9), (j132 10), (j132 11), (j132 12), .pointer (some ⟨b1, 0, none⟩), .int .i64 vt145, .pointer (some ⟨b52, 0, none⟩), .int .i64 vt17, .pointer (some ⟨b52, 1, none⟩), .int .i64 vt24, .int .i64 (w64 (vt17 * vt24)), .int .i64 x340, .bool true, .pointer (some ⟨b52, 2, none⟩), .slice A343 x342.length c344, .pointer (some ⟨b1, 0, none⟩), (j339 5), (j339 6), (j339 7), (j339 8), (j339 9), (j339 10), (j339 11), (j339 12), (j339 13), (j339 14), (j339 15), (j339 16), (j339 17), (j339 18), (j339 19), (j339 20), (j339 21), (j339 22), (j339 23), (j339 24), (j339 25), (j339 26), (j339 27), (j339 28), (j339 29), (j339 30), (j339 31), (j339 32), (j339 33), (j339 34), (j339 35), undef], []⟩) rfl (by kernel_rfl) (by kernel_rfl) (by kernel_rfl) (fun ch_ a_ w_ q_ => (fun ch_ a_ w_ q_ => hnp ch_ a_ w_ (hp161 ch_ a_ w_ q_)) ch_ a_ w_ (hp373 ch_ a_ w_ q_)) (Sg.g3 (Sx.of [s345, [(b1, .cells #[.slice A4 s3.L.length c5, .int .i64 x341] 43 (0, 0))], [(b52, .cells #[.int .i64 vt17, .int .i64 vt24, .slice A343 x342.length c344, .slice A349 x348.length c350, .slice A355 x354.length c356, .int .i64 x134, .int .i64 x135, .int .i64 x136] 46 (0, 0))]] (FM.le.refl _) HS384) (fun _ => St.only [] HS384 (FM.le.refl _)) (fun _ => St.only [s345] HS384 (FM.le.refl _)) (fun _ => St.only [s345, [(b1, .cells #[.slice A4 s3.L.length c5, .int .i64 x341] 43 (0, 0))]] HS384 (FM.le.refl _))) ?_
      have HS385 := HS384.u1
      have hq_ := bind_some h; clear h; obtain ⟨⟨vt386, vt387⟩, hc388, h⟩ := hq_
      refine takeGE 3 (by kernel_rfl) rfl (by kernel_rfl) (does_call (f := 25) (args := #[.pointer (some ⟨b1, 0, none⟩), .int .i64 60]) (by kernel_rfl) (spymake_Stream_Next.calls k b1 A4 c5 (⟨s3.L, x341⟩ : S_Stream) 60 HS385 (HR6.mono (L21.trans (L28.trans (L35.trans (L42.trans (L49.trans (L67.trans (L129.trans (L149.trans L336))))))))) vt386 vt387 hc388) ?_)
      rintro _ W391 ⟨f389, rfl, L390, HS392⟩
      refine ⟨_, rfl, ?_⟩
      refine ⟨(Sg.g3 (Sx.of [[(b1, .cells #[.slice A4 s3.L.length c5, .int .i64 vt387] 43 (0, 0))], s345, [(b52, .cells #[.int .i64 vt17, .int .i64 vt24, .slice A343 x342.length c344, .slice A349 x348.length c350, .slice A355 x354.length c356, .int .i64 x134, .int .i64 x135, .int .i64 x136] 46 (0, 0))]] L390 HS392) (fun _ => St.only [[(b1, .cells #[.slice A4 s3.L.length c5, .int .i64 vt387] 43 (0, 0))]] HS392 L390) (fun hl_ => Bool.noConfusion (show true = false from hl_)) (fun _ => St.only [[(b1, .cells #[.slice A4 s3.L.length c5, .int .i64 vt387] 43 (0, 0))], s345] HS392 L390)), ?_⟩
      refine takeGE 4 (by kernel_rfl) rfl (by kernel_rfl) (does_lit (e := (tInt .i64)) (E := 3) (vs := #[(0, Value.int .i64 vt386)]) (cs := #[.int .i64 vt386]) (xs := ([vt386] : List Int)) rfl Try.underlying40 (by kernel_rfl) (by kernel_rfl) ⟨[.int .i64 vt386], _, rfl, rfl, rfl⟩ rfl HS392 ?_ (by decide))
      intro b393 W394 s395 HS396 _ HO397
      refine ⟨(Sg.g3 (Sx.of [s395, [(b1, .cells #[.slice A4 s3.L.length c5, .int .i64 vt387] 43 (0, 0))], s345, [(b52, .cells #[.int .i64 vt17, .int .i64 vt24, .slice A343 x342.length c344, .slice A349 x348.length c350, .slice A355 x354.length c356, .int .i64 x134, .int .i64 x135, .int .i64 x136] 46 (0, 0))]] L390 HS396) (fun _ => St.only [s395, [(b1, .cells #[.slice A4 s3.L.length c5, .int .i64 vt387] 43 (0, 0))]] HS396 L390) (fun hl_ => Bool.noConfusion (show true = false from hl_)) (fun _ => St.only [s395, [(b1, .cells #[.slice A4 s3.L.length c5, .int .i64 vt387] 43 (0, 0))], s345] HS396 L390)), ?_⟩
      have hq_ := guard_some h; clear h; obtain ⟨c399, h⟩ := hq_
      have c399 : (x342.length + 1) * 8 ≤ 140737488355328 := c399
      have HS400 := HS396.u2
      have HS401 := HS400.u1
      refine takeGE 5 (by kernel_rfl) rfl (by kernel_rfl) (does_append1 (e := (tInt .i64)) (E := 3) (xs := x342) (ys := ([vt386] : List Int)) rfl (by kernel_rfl : _ = Value.slice A343 x342.length c344) (by kernel_rfl : _ = Value.slice (some ⟨b393, 0, none⟩) ([vt386] : List Int).length 1) Try.underlying40 inf3 (HO346.mono L390) HO397 HS401 c399 (lim63 c399 (by decide)) ?_)
      intro A402 c403 s404 W405 HS406 HO407
      refine ⟨(Sg.g3 (Sx.of [s404, [(b1, .cells #[.slice A4 s3.L.length c5, .int .i64 vt387] 43 (0, 0))], [(b52, .cells #[.int .i64 vt17, .int .i64 vt24, .slice A343 x342.length c344, .slice A349 x348.length c350, .slice A355 x354.length c356, .int .i64 x134, .int .i64 x135, .int .i64 x136] 46 (0, 0))]] L390 HS406) (fun hl_ => Bool.noConfusion (show true = false from hl_)) (fun hl_ => Bool.noConfusion (show true = false from hl_)) (fun _ => St.only [s404, [(b1, .cells #[.slice A4 s3.L.length c5, .int .i64 vt387] 43 (0, 0))]] HS406 L390)), ?_⟩
      refine takeG [6] (n := 2) (fuel := 1) (l' := #[true, true, true, true, true, true, true, false]) (a' := ⟨#[.pointer (some ⟨b1, 0, none⟩), .int .i64 most7, undef, undef, .pointer (some ⟨b10, 0, none⟩), .pointer (some ⟨b52, 0, none⟩), .int .i64 vt145, (j339 0), .pointer (some ⟨b1, 0, none⟩), .int .i64 most7, .int .i64 vt17, .pointer (some ⟨b1, 0, none⟩), .int .i64 most7, .int .i64 vt24, .pointer (some ⟨b1, 0, none⟩), .int .i64 vt31, .pointer (some ⟨b1, 0, none⟩), .int .i64 vt38, .pointer (some ⟨b1, 0, none⟩), .int .i64 vt45, .agg #[.int .i64 vt17, .int .i64 vt24, .slice none 0 0, .slice none 0 0, .slice none 0 0, .int .i64 vt31, .int .i64 vt38, .int .i64 vt45], .pointer (some ⟨b1, 0, none⟩), .int .i64 vt63, (j132 0), (j132 1), (j132 2), (j132 3), (j132 4), (j132 5), (j132 6), (j132 7), (j132 8), (j132 9), (j132 10), (j132 11), (j132 12), .pointer (some ⟨b1, 0, none⟩), .int .i64 vt145, .pointer (some ⟨b52, 0, none⟩), .int .i64 vt17, .pointer (some ⟨b52, 1, none⟩), .int .i64 vt24, .int .i64 (w64 (vt17 * vt24)), .int .i64 x340, .bool true, .pointer (some ⟨b52, 2, none⟩), .slice A343 x342.length c344, .pointer (some ⟨b1, 0, none⟩), .int .i64 vt386, .slice (some ⟨b393, 0, none⟩) ([vt386] : List Int).length 1, .slice A402 (x342 ++ ([vt386] : List Int)).length c403, .pointer (some ⟨b52, 2, none⟩), (j339 9), (j339 10), (j339 11), (j339 12), (j339 13), (j339 14), (j339 15), (j339 16), (j339 17), (j339 18), (j339 19), (j339 20), (j339 21), (j339 22), (j339 23), (j339 24), (j339 25), (j339 26), (j339 27), (j339 28), (j339 29), (j339 30), (j339 31), (j339 32), (j339 33), (j339 34), (j339 35), undef], []⟩) rfl (by kernel_rfl) (by kernel_rfl) (by kernel_rfl) (fun ch_ a_ w_ q_ => (fun ch_ a_ w_ q_ => hnp ch_ a_ w_ (hp161 ch_ a_ w_ q_)) ch_ a_ w_ (hp373 ch_ a_ w_ q_)) (Sg.g3 (Sx.of [s404, [(b1, .cells #[.slice A4 s3.L.length c5, .int .i64 vt387] 43 (0, 0))], [(b52, .cells #[.int .i64 vt17, .int .i64 vt24, .slice A343 x342.length c344, .slice A349 x348.length c350, .slice A355 x354.length c356, .int .i64 x134, .int .i64 x135, .int .i64 x136] 46 (0, 0))]] L390 HS406) (fun hl_ => Bool.noConfusion (show true = false from hl_)) (fun hl_ => Bool.noConfusion (show true = false from hl_)) (fun _ => St.only [s404, [(b1, .cells #[.slice A4 s3.L.length c5, .int .i64 vt387] 43 (0, 0))]] HS406 L390)) ?_
      have HS408 := HS406.u2
      refine takeGE 7 (by kernel_rfl) rfl (by kernel_rfl) (does_store (n := 1) (vs := [.slice A402 (x342 ++ ([vt386] : List Int)).length c403]) (cs' := #[.int .i64 vt17, .int .i64 vt24, .slice A402 (x342 ++ ([vt386] : List Int)).length c403, .slice A349 x348.length c350, .slice A355 x354.length c356, .int .i64 x134, .int .i64 x135, .int .i64 x136]) rfl (by kernel_rfl) (by kernel_rfl : _ = Value.pointer (some ⟨b52, 2, none⟩)) (by kernel_rfl : _ = Value.slice A402 (x342 ++ ([vt386] : List Int)).length c403) rfl rfl (by intro u_ hu_; simp only [List.mem_cons, List.not_mem_nil, or_false] at hu_; subst hu_; rfl) HS408 (Nat.le_of_ble_eq_true rfl) (by kernel_rfl) ?_)
      intro W409 HS410
      refine ⟨(Sg.g3 (Sx.of [[(b52, .cells #[.int .i64 vt17, .int .i64 vt24, .slice A402 (x342 ++ ([vt386] : List Int)).length c403, .slice A349 x348.length c350, .slice A355 x354.length c356, .int .i64 x134, .int .i64 x135, .int .i64 x136] 46 (0, 0))], s404, [(b1, .cells #[.slice A4 s3.L.length c5, .int .i64 vt387] 43 (0, 0))]] L390 HS410) (fun hl_ => Bool.noConfusion (show true = false from hl_)) (fun hl_ => Bool.noConfusion (show true = false from hl_)) (fun hl_ => Bool.noConfusion (show true = false from hl_))), ?_⟩
      refine doneG (by kernel_rfl) ?_ _
      refine hK376 _ _ ?_
      refine wp_seq_k (fun K411 hK412 => ?_)
      have HS413 := HS410.u5
      have HS414 := HS413.u4
      have HS415 := HS414.u3
      have HS416 := HS415.u5
      have HS417 := HS416.u5
      have HS418 := HS417.u5
      refine heldG (S := Sg t f389 (s404 :: s357 :: [(b10, .cells #[.int .i64 0, .int .i64 0, .slice none 0 0, .slice none 0 0, .slice none 0 0, .int .i64 0, .int .i64 0, .int .i64 0] 46 (0, 0))] :: H) [(10, [(b52, .cells #[.int .i64 vt17, .int .i64 vt24, .slice A402 (x342 ++ ([vt386] : List Int)).length c403, .slice A349 x348.length c350, .slice A355 x354.length c356, .int .i64 x134, .int .i64 x135, .int .i64 x136] 46 (0, 0))]), (6, [(b1, .cells #[.slice A4 s3.L.length c5, .int .i64 vt387] 43 (0, 0))]), (8, s351)]) (n := 11) (by kernel_rfl) rfl HS418 ?_
      intro W419 HS420
      refine takeG [0] (n := 11) (fuel := 10) (l' := #[true, false, false, false, false, false, false, false, false, false, false]) (a' := ⟨#[.pointer (some ⟨b1, 0, none⟩), .int .i64 most7, undef, undef, .pointer (some ⟨b10, 0, none⟩), .pointer (some ⟨b52, 0, none⟩), .int .i64 vt145, (j339 0), .pointer (some ⟨b1, 0, none⟩), .int .i64 most7, .int .i64 vt17, .pointer (some ⟨b1, 0, none⟩), .int .i64 most7, .int .i64 vt24, .pointer (some ⟨b1, 0, none⟩), .int .i64 vt31, .pointer (some ⟨b1, 0, none⟩), .int .i64 vt38, .pointer (some ⟨b1, 0, none⟩), .int .i64 vt45, .agg #[.int .i64 vt17, .int .i64 vt24, .slice none 0 0, .slice none 0 0, .slice none 0 0, .int .i64 vt31, .int .i64 vt38, .int .i64 vt45], .pointer (some ⟨b1, 0, none⟩), .int .i64 vt63, (j132 0), (j132 1), (j132 2), (j132 3), (j132 4), (j132 5), (j132 6), (j132 7), (j132 8), (j132 9), (j132 10), (j132 11), (j132 12), .pointer (some ⟨b1, 0, none⟩), .int .i64 vt145, .pointer (some ⟨b52, 0, none⟩), .int .i64 vt17, .pointer (some ⟨b52, 1, none⟩), .int .i64 vt24, .int .i64 (w64 (vt17 * vt24)), .int .i64 x340, .bool true, .pointer (some ⟨b52, 2, none⟩), .slice A343 x342.length c344, .pointer (some ⟨b1, 0, none⟩), .int .i64 vt386, .slice (some ⟨b393, 0, none⟩) ([vt386] : List Int).length 1, .slice A402 (x342 ++ ([vt386] : List Int)).length c403, .pointer (some ⟨b52, 2, none⟩), .pointer (some ⟨b52, 3, none⟩), (j339 10), (j339 11), (j339 12), (j339 13), (j339 14), (j339 15), (j339 16), (j339 17), (j339 18), (j339 19), (j339 20), (j339 21), (j339 22), (j339 23), (j339 24), (j339 25), (j339 26), (j339 27), (j339 28), (j339 29), (j339 30), (j339 31), (j339 32), (j339 33), (j339 34), (j339 35), undef], []⟩) rfl (by kernel_rfl) (by kernel_rfl) (by kernel_rfl) (fun ch_ a_ w_ q_ => (fun ch_ a_ w_ q_ => hnp ch_ a_ w_ (hp161 ch_ a_ w_ q_)) ch_ a_ w_ (hp373 ch_ a_ w_ q_)) (Sg.g3 (Sx.of [[(b52, .cells #[.int .i64 vt17, .int .i64 vt24, .slice A402 (x342 ++ ([vt386] : List Int)).length c403, .slice A349 x348.length c350, .slice A355 x354.length c356, .int .i64 x134, .int .i64 x135, .int .i64 x136] 46 (0, 0))], [(b1, .cells #[.slice A4 s3.L.length c5, .int .i64 vt387] 43 (0, 0))], s351] (FM.le.refl _) HS420) (fun _ => St.only [] HS420 (FM.le.refl _)) (fun _ => St.only [[(b52, .cells #[.int .i64 vt17, .int .i64 vt24, .slice A402 (x342 ++ ([vt386] : List Int)).length c403, .slice A349 x348.length c350, .slice A355 x354.length c356, .int .i64 x134, .int .i64 x135, .int .i64 x136] 46 (0, 0))]] HS420 (FM.le.refl _)) (fun _ => St.only [[(b52, .cells #[.int .i64 vt17, .int .i64 vt24, .slice A402 (x342 ++ ([vt386] : List Int)).length c403, .slice A349 x348.length c350, .slice A355 x354.length c356, .int .i64 x134, .int .i64 x135, .int .i64 x136] 46 (0, 0))], [(b1, .cells #[.slice A4 s3.L.length c5, .int .i64 vt387] 43 (0, 0))]] HS420 (FM.le.refl _))) ?_
      refine takeGQ 1 [10] rfl (by kernel_rfl) (by kernel_rfl) (by kernel_rfl) (by kernel_rfl) (by kernel_rfl) (by kernel_rfl) (fun ch_ a_ w_ q_ => (fun ch_ a_ w_ q_ => hnp ch_ a_ w_ (hp161 ch_ a_ w_ q_)) ch_ a_ w_ (hp373 ch_ a_ w_ q_)) (Sg.g3 (Sx.of [[(b52, .cells #[.int .i64 vt17, .int .i64 vt24, .slice A402 (x342 ++ ([vt386] : List Int)).length c403, .slice A349 x348.length c350, .slice A355 x354.length c356, .int .i64 x134, .int .i64 x135, .int .i64 x136] 46 (0, 0))], [(b1, .cells #[.slice A4 s3.L.length c5, .int .i64 vt387] 43 (0, 0))], s351] (FM.le.refl _) HS420) (fun _ => St.only [] HS420 (FM.le.refl _)) (fun _ => St.only [[(b52, .cells #[.int .i64 vt17, .int .i64 vt24, .slice A402 (x342 ++ ([vt386] : List Int)).length c403, .slice A349 x348.length c350, .slice A355 x354.length c356, .int .i64 x134, .int .i64 x135, .int .i64 x136] 46 (0, 0))]] HS420 (FM.le.refl _)) (fun _ => St.only [[(b52, .cells #[.int .i64 vt17, .int .i64 vt24, .slice A402 (x342 ++ ([vt386] : List Int)).length c403, .slice A349 x348.length c350, .slice A355 x354.length c356, .int .i64 x134, .int .i64 x135, .int .i64 x136] 46 (0, 0))], [(b1, .cells #[.slice A4 s3.L.length c5, .int .i64 vt387] 43 (0, 0))]] HS420 (FM.le.refl _))) (fun w_ hw_ => by obtain ⟨g_, hl_, hS_⟩ := hw_.seg (j := 10) (s := [(b52, .cells #[.int .i64 vt17, .int .i64 vt24, .slice A402 (x342 ++ ([vt386] : List Int)).length c403, .slice A349 x348.length c350, .slice A355 x354.length c356, .int .i64 x134, .int .i64 x135, .int .i64 x136] 46 (0, 0))]) (by simp) (by simp); exact run_load rfl Try.underlying44 rfl (by kernel_rfl : _ = Value.pointer (some ⟨b52, 3, none⟩)) (hS_.cell 3)) ?_
      refine takeG [2, 3, 4, 5] (n := 9) (fuel := 5) (l' := #[true, true, true, true, true, true, false, false, false, false, false]) (a' := ⟨#[.pointer (some ⟨b1, 0, none⟩), .int .i64 most7, undef, undef, .pointer (some ⟨b10, 0, none⟩), .pointer (some ⟨b52, 0, none⟩), .int .i64 vt145, (j339 0), .pointer (some ⟨b1, 0, none⟩), .int .i64 most7, .int .i64 vt17, .pointer (some ⟨b1, 0, none⟩), .int .i64 most7, .int .i64 vt24, .pointer (some ⟨b1, 0, none⟩), .int .i64 vt31, .pointer (some ⟨b1, 0, none⟩), .int .i64 vt38, .pointer (some ⟨b1, 0, none⟩), .int .i64 vt45, .agg #[.int .i64 vt17, .int .i64 vt24, .slice none 0 0, .slice none 0 0, .slice none 0 0, .int .i64 vt31, .int .i64 vt38, .int .i64 vt45], .pointer (some ⟨b1, 0, none⟩), .int .i64 vt63, (j132 0), (j132 1), (j132 2), (j132 3), (j132 4), (j132 5), (j132 6), (j132 7), (j132 8), (j132 9), (j132 10), (j132 11), (j132 12), .pointer (some ⟨b1, 0, none⟩), .int .i64 vt145, .pointer (some ⟨b52, 0, none⟩), .int .i64 vt17, .pointer (some ⟨b52, 1, none⟩), .int .i64 vt24, .int .i64 (w64 (vt17 * vt24)), .int .i64 x340, .bool true, .pointer (some ⟨b52, 2, none⟩), .slice A343 x342.length c344, .pointer (some ⟨b1, 0, none⟩), .int .i64 vt386, .slice (some ⟨b393, 0, none⟩) ([vt386] : List Int).length 1, .slice A402 (x342 ++ ([vt386] : List Int)).length c403, .pointer (some ⟨b52, 2, none⟩), .pointer (some ⟨b52, 3, none⟩), .slice A349 x348.length c350, .pointer (some ⟨b1, 0, none⟩), .int .i64 vt145, .int .i64 (w64 (vt145 * 16777216)), .int .i64 (w64 ((w64 (vt145 * 16777216)) + 1)), (j339 15), (j339 16), (j339 17), (j339 18), (j339 19), (j339 20), (j339 21), (j339 22), (j339 23), (j339 24), (j339 25), (j339 26), (j339 27), (j339 28), (j339 29), (j339 30), (j339 31), (j339 32), (j339 33), (j339 34), (j339 35), undef], []⟩) rfl (by kernel_rfl) (by kernel_rfl) (by kernel_rfl) (fun ch_ a_ w_ q_ => (fun ch_ a_ w_ q_ => hnp ch_ a_ w_ (hp161 ch_ a_ w_ q_)) ch_ a_ w_ (hp373 ch_ a_ w_ q_)) (Sg.g3 (Sx.of [[(b52, .cells #[.int .i64 vt17, .int .i64 vt24, .slice A402 (x342 ++ ([vt386] : List Int)).length c403, .slice A349 x348.length c350, .slice A355 x354.length c356, .int .i64 x134, .int .i64 x135, .int .i64 x136] 46 (0, 0))], [(b1, .cells #[.slice A4 s3.L.length c5, .int .i64 vt387] 43 (0, 0))], s351] (FM.le.refl _) HS420) (fun _ => St.only [] HS420 (FM.le.refl _)) (fun _ => St.only [[(b52, .cells #[.int .i64 vt17, .int .i64 vt24, .slice A402 (x342 ++ ([vt386] : List Int)).length c403, .slice A349 x348.length c350, .slice A355 x354.length c356, .int .i64 x134, .int .i64 x135, .int .i64 x136] 46 (0, 0))]] HS420 (FM.le.refl _)) (fun _ => St.only [[(b52, .cells #[.int .i64 vt17, .int .i64 vt24, .slice A402 (x342 ++ ([vt386] : List Int)).length c403, .slice A349 x348.length c350, .slice A355 x354.length c356, .int .i64 x134, .int .i64 x135, .int .i64 x136] 46 (0, 0))], [(b1, .cells #[.slice A4 s3.L.length c5, .int .i64 vt387] 43 (0, 0))]] HS420 (FM.le.refl _))) ?_
      have HS421 := HS420.u1
      have hq_ := bind_some h; clear h; obtain ⟨⟨vt422, vt423⟩, hc424, h⟩ := hq_
      refine takeGE 6 (by kernel_rfl) rfl (by kernel_rfl) (does_call (f := 25) (args := #[.pointer (some ⟨b1, 0, none⟩), .int .i64 (w64 ((w64 (vt145 * 16777216)) + 1))]) (by kernel_rfl) (spymake_Stream_Next.calls k b1 A4 c5 (⟨s3.L, vt387⟩ : S_Stream) (w64 ((w64 (vt145 * 16777216)) + 1)) HS421 (HR6.mono (L21.trans (L28.trans (L35.trans (L42.trans (L49.trans (L67.trans (L129.trans (L149.trans (L336.trans L390)))))))))) vt422 vt423 hc424) ?_)
      rintro _ W427 ⟨f425, rfl, L426, HS428⟩
      refine ⟨_, rfl, ?_⟩
      refine ⟨(Sg.g3 (Sx.of [[(b1, .cells #[.slice A4 s3.L.length c5, .int .i64 vt423] 43 (0, 0))], [(b52, .cells #[.int .i64 vt17, .int .i64 vt24, .slice A402 (x342 ++ ([vt386] : List Int)).length c403, .slice A349 x348.length c350, .slice A355 x354.length c356, .int .i64 x134, .int .i64 x135, .int .i64 x136] 46 (0, 0))], s351] L426 HS428) (fun _ => St.only [[(b1, .cells #[.slice A4 s3.L.length c5, .int .i64 vt423] 43 (0, 0))]] HS428 L426) (fun hl_ => Bool.noConfusion (show true = false from hl_)) (fun _ => St.only [[(b1, .cells #[.slice A4 s3.L.length c5, .int .i64 vt423] 43 (0, 0))], [(b52, .cells #[.int .i64 vt17, .int .i64 vt24, .slice A402 (x342 ++ ([vt386] : List Int)).length c403, .slice A349 x348.length c350, .slice A355 x354.length c356, .int .i64 x134, .int .i64 x135, .int .i64 x136] 46 (0, 0))]] HS428 L426)), ?_⟩
      refine takeGE 7 (by kernel_rfl) rfl (by kernel_rfl) (does_lit (e := (tInt .i64)) (E := 25) (vs := #[(0, Value.int .i64 vt422)]) (cs := #[.int .i64 vt422]) (xs := ([vt422] : List Int)) rfl Try.underlying44 (by kernel_rfl) (by kernel_rfl) ⟨[.int .i64 vt422], _, rfl, rfl, rfl⟩ rfl HS428 ?_ (by decide))
      intro b429 W430 s431 HS432 _ HO433
      refine ⟨(Sg.g3 (Sx.of [s431, [(b1, .cells #[.slice A4 s3.L.length c5, .int .i64 vt423] 43 (0, 0))], [(b52, .cells #[.int .i64 vt17, .int .i64 vt24, .slice A402 (x342 ++ ([vt386] : List Int)).length c403, .slice A349 x348.length c350, .slice A355 x354.length c356, .int .i64 x134, .int .i64 x135, .int .i64 x136] 46 (0, 0))], s351] L426 HS432) (fun _ => St.only [s431, [(b1, .cells #[.slice A4 s3.L.length c5, .int .i64 vt423] 43 (0, 0))]] HS432 L426) (fun hl_ => Bool.noConfusion (show true = false from hl_)) (fun _ => St.only [s431, [(b1, .cells #[.slice A4 s3.L.length c5, .int .i64 vt423] 43 (0, 0))], [(b52, .cells #[.int .i64 vt17, .int .i64 vt24, .slice A402 (x342 ++ ([vt386] : List Int)).length c403, .slice A349 x348.length c350, .slice A355 x354.length c356, .int .i64 x134, .int .i64 x135, .int .i64 x136] 46 (0, 0))]] HS432 L426)), ?_⟩
      have hq_ := guard_some h; clear h; obtain ⟨c435, h⟩ := hq_
      have c435 : (x348.length + 1) * 8 ≤ 140737488355328 := c435
      have HS436 := HS432.u3
      have HS437 := HS436.u1
      refine takeGE 8 (by kernel_rfl) rfl (by kernel_rfl) (does_append1 (e := (tInt .i64)) (E := 25) (xs := x348) (ys := ([vt422] : List Int)) rfl (by kernel_rfl : _ = Value.slice A349 x348.length c350) (by kernel_rfl : _ = Value.slice (some ⟨b429, 0, none⟩) ([vt422] : List Int).length 1) Try.underlying44 inf25 (HO352.mono (L390.trans L426)) HO433 HS437 c435 (lim63 c435 (by decide)) ?_)
      intro A438 c439 s440 W441 HS442 HO443
      refine ⟨(Sg.g3 (Sx.of [s440, [(b1, .cells #[.slice A4 s3.L.length c5, .int .i64 vt423] 43 (0, 0))], [(b52, .cells #[.int .i64 vt17, .int .i64 vt24, .slice A402 (x342 ++ ([vt386] : List Int)).length c403, .slice A349 x348.length c350, .slice A355 x354.length c356, .int .i64 x134, .int .i64 x135, .int .i64 x136] 46 (0, 0))]] L426 HS442) (fun _ => St.only [s440, [(b1, .cells #[.slice A4 s3.L.length c5, .int .i64 vt423] 43 (0, 0))]] HS442 L426) (fun hl_ => Bool.noConfusion (show true = false from hl_)) (fun hl_ => Bool.noConfusion (show true = false from hl_))), ?_⟩
      refine takeG [9] (n := 2) (fuel := 1) (l' := #[true, true, true, true, true, true, true, true, true, true, false]) (a' := ⟨#[.pointer (some ⟨b1, 0, none⟩), .int .i64 most7, undef, undef, .pointer (some ⟨b10, 0, none⟩), .pointer (some ⟨b52, 0, none⟩), .int .i64 vt145, (j339 0), .pointer (some ⟨b1, 0, none⟩), .int .i64 most7, .int .i64 vt17, .pointer (some ⟨b1, 0, none⟩), .int .i64 most7, .int .i64 vt24, .pointer (some ⟨b1, 0, none⟩), .int .i64 vt31, .pointer (some ⟨b1, 0, none⟩), .int .i64 vt38, .pointer (some ⟨b1, 0, none⟩), .int .i64 vt45, .agg #[.int .i64 vt17, .int .i64 vt24, .slice none 0 0, .slice none 0 0, .slice none 0 0, .int .i64 vt31, .int .i64 vt38, .int .i64 vt45], .pointer (some ⟨b1, 0, none⟩), .int .i64 vt63, (j132 0), (j132 1), (j132 2), (j132 3), (j132 4), (j132 5), (j132 6), (j132 7), (j132 8), (j132 9), (j132 10), (j132 11), (j132 12), .pointer (some ⟨b1, 0, none⟩), .int .i64 vt145, .pointer (some ⟨b52, 0, none⟩), .int .i64 vt17, .pointer (some ⟨b52, 1, none⟩), .int .i64 vt24, .int .i64 (w64 (vt17 * vt24)), .int .i64 x340, .bool true, .pointer (some ⟨b52, 2, none⟩), .slice A343 x342.length c344, .pointer (some ⟨b1, 0, none⟩), .int .i64 vt386, .slice (some ⟨b393, 0, none⟩) ([vt386] : List Int).length 1, .slice A402 (x342 ++ ([vt386] : List Int)).length c403, .pointer (some ⟨b52, 2, none⟩), .pointer (some ⟨b52, 3, none⟩), .slice A349 x348.length c350, .pointer (some ⟨b1, 0, none⟩), .int .i64 vt145, .int .i64 (w64 (vt145 * 16777216)), .int .i64 (w64 ((w64 (vt145 * 16777216)) + 1)), .int .i64 vt422, .slice (some ⟨b429, 0, none⟩) ([vt422] : List Int).length 1, .slice A438 (x348 ++ ([vt422] : List Int)).length c439, .pointer (some ⟨b52, 3, none⟩), (j339 19), (j339 20), (j339 21), (j339 22), (j339 23), (j339 24), (j339 25), (j339 26), (j339 27), (j339 28), (j339 29), (j339 30), (j339 31), (j339 32), (j339 33), (j339 34), (j339 35), undef], []⟩) rfl (by kernel_rfl) (by kernel_rfl) (by kernel_rfl) (fun ch_ a_ w_ q_ => (fun ch_ a_ w_ q_ => hnp ch_ a_ w_ (hp161 ch_ a_ w_ q_)) ch_ a_ w_ (hp373 ch_ a_ w_ q_)) (Sg.g3 (Sx.of [s440, [(b1, .cells #[.slice A4 s3.L.length c5, .int .i64 vt423] 43 (0, 0))], [(b52, .cells #[.int .i64 vt17, .int .i64 vt24, .slice A402 (x342 ++ ([vt386] : List Int)).length c403, .slice A349 x348.length c350, .slice A355 x354.length c356, .int .i64 x134, .int .i64 x135, .int .i64 x136] 46 (0, 0))]] L426 HS442) (fun _ => St.only [s440, [(b1, .cells #[.slice A4 s3.L.length c5, .int .i64 vt423] 43 (0, 0))]] HS442 L426) (fun hl_ => Bool.noConfusion (show true = false from hl_)) (fun hl_ => Bool.noConfusion (show true = false from hl_))) ?_
      have HS444 := HS442.u2
      refine takeGE 10 (by kernel_rfl) rfl (by kernel_rfl) (does_store (n := 1) (vs := [.slice A438 (x348 ++ ([vt422] : List Int)).length c439]) (cs' := #[.int .i64 vt17, .int .i64 vt24, .slice A402 (x342 ++ ([vt386] : List Int)).length c403, .slice A438 (x348 ++ ([vt422] : List Int)).length c439, .slice A355 x354.length c356, .int .i64 x134, .int .i64 x135, .int .i64 x136]) rfl (by kernel_rfl) (by kernel_rfl : _ = Value.pointer (some ⟨b52, 3, none⟩)) (by kernel_rfl : _ = Value.slice A438 (x348 ++ ([vt422] : List Int)).length c439) rfl rfl (by intro u_ hu_; simp only [List.mem_cons, List.not_mem_nil, or_false] at hu_; subst hu_; rfl) HS444 (Nat.le_of_ble_eq_true rfl) (by kernel_rfl) ?_)
      intro W445 HS446
      refine ⟨(Sg.g3 (Sx.of [[(b52, .cells #[.int .i64 vt17, .int .i64 vt24, .slice A402 (x342 ++ ([vt386] : List Int)).length c403, .slice A438 (x348 ++ ([vt422] : List Int)).length c439, .slice A355 x354.length c356, .int .i64 x134, .int .i64 x135, .int .i64 x136] 46 (0, 0))], s440, [(b1, .cells #[.slice A4 s3.L.length c5, .int .i64 vt423] 43 (0, 0))]] L426 HS446) (fun hl_ => Bool.noConfusion (show true = false from hl_)) (fun hl_ => Bool.noConfusion (show true = false from hl_)) (fun hl_ => Bool.noConfusion (show true = false from hl_))), ?_⟩
      refine doneG (by kernel_rfl) ?_ _
      refine hK412 _ _ ?_
      refine wp_seq_k (fun K447 hK448 => ?_)
      refine wp_region_lit ?_
      have HS449 := HS446.u2
      have hq_ := bind_some h; clear h; obtain ⟨⟨vt450, vt451⟩, hc452, h⟩ := hq_
      refine seqL1 (by kernel_rfl) ?_
      refine seqK rfl (does_call (f := 43) (args := #[.pointer (some ⟨b1, 0, none⟩), .int .i64 2048, .int .i64 4096]) (by kernel_rfl) (spymake_Stream_Range.calls k b1 A4 c5 (⟨s3.L, vt423⟩ : S_Stream) 2048 4096 HS449 (HR6.mono (L21.trans (L28.trans (L35.trans (L42.trans (L49.trans (L67.trans (L129.trans (L149.trans (L336.trans (L390.trans L426))))))))))) vt450 vt451 hc452) ?_)
      rintro _ W455 ⟨f453, rfl, L454, HS456⟩
      refine ⟨_, rfl, ?_⟩
      refine seqS1 (a' := ⟨#[.pointer (some ⟨b1, 0, none⟩), .int .i64 most7, undef, undef, .pointer (some ⟨b10, 0, none⟩), .pointer (some ⟨b52, 0, none⟩), .int .i64 vt145, .int .i64 vt450, .pointer (some ⟨b1, 0, none⟩), .int .i64 most7, .int .i64 vt17, .pointer (some ⟨b1, 0, none⟩), .int .i64 most7, .int .i64 vt24, .pointer (some ⟨b1, 0, none⟩), .int .i64 vt31, .pointer (some ⟨b1, 0, none⟩), .int .i64 vt38, .pointer (some ⟨b1, 0, none⟩), .int .i64 vt45, .agg #[.int .i64 vt17, .int .i64 vt24, .slice none 0 0, .slice none 0 0, .slice none 0 0, .int .i64 vt31, .int .i64 vt38, .int .i64 vt45], .pointer (some ⟨b1, 0, none⟩), .int .i64 vt63, (j132 0), (j132 1), (j132 2), (j132 3), (j132 4), (j132 5), (j132 6), (j132 7), (j132 8), (j132 9), (j132 10), (j132 11), (j132 12), .pointer (some ⟨b1, 0, none⟩), .int .i64 vt145, .pointer (some ⟨b52, 0, none⟩), .int .i64 vt17, .pointer (some ⟨b52, 1, none⟩), .int .i64 vt24, .int .i64 (w64 (vt17 * vt24)), .int .i64 x340, .bool true, .pointer (some ⟨b52, 2, none⟩), .slice A343 x342.length c344, .pointer (some ⟨b1, 0, none⟩), .int .i64 vt386, .slice (some ⟨b393, 0, none⟩) ([vt386] : List Int).length 1, .slice A402 (x342 ++ ([vt386] : List Int)).length c403, .pointer (some ⟨b52, 2, none⟩), .pointer (some ⟨b52, 3, none⟩), .slice A349 x348.length c350, .pointer (some ⟨b1, 0, none⟩), .int .i64 vt145, .int .i64 (w64 (vt145 * 16777216)), .int .i64 (w64 ((w64 (vt145 * 16777216)) + 1)), .int .i64 vt422, .slice (some ⟨b429, 0, none⟩) ([vt422] : List Int).length 1, .slice A438 (x348 ++ ([vt422] : List Int)).length c439, .pointer (some ⟨b52, 3, none⟩), .pointer (some ⟨b1, 0, none⟩), .int .i64 vt450, (j339 21), (j339 22), (j339 23), (j339 24), (j339 25), (j339 26), (j339 27), (j339 28), (j339 29), (j339 30), (j339 31), (j339 32), (j339 33), (j339 34), (j339 35), undef], []⟩) (by kernel_rfl) ?_
      refine wpList_nil ?_
      refine hK448 _ _ ?_
      refine wp_seq_k (fun K457 hK458 => ?_)
      refine wp_seq_k (fun K459 hK460 => ?_)
      refine wp_region_lit ?_
      have hq_ := bind_some h; clear h; obtain ⟨⟨vt461, vt462⟩, hc463, h⟩ := hq_
      refine seqL1 (by kernel_rfl) ?_
      refine seqK rfl (does_call (f := 25) (args := #[.pointer (some ⟨b1, 0, none⟩), .int .i64 12]) (by kernel_rfl) (spymake_Stream_Next.calls k b1 A4 c5 (⟨s3.L, vt451⟩ : S_Stream) 12 HS456 (HR6.mono (L21.trans (L28.trans (L35.trans (L42.trans (L49.trans (L67.trans (L129.trans (L149.trans (L336.trans (L390.trans (L426.trans L454)))))))))))) vt461 vt462 hc463) ?_)
      rintro _ W466 ⟨f464, rfl, L465, HS467⟩
      refine ⟨_, rfl, ?_⟩
      refine seqS1 (a' := ⟨#[.pointer (some ⟨b1, 0, none⟩), .int .i64 most7, undef, undef, .pointer (some ⟨b10, 0, none⟩), .pointer (some ⟨b52, 0, none⟩), .int .i64 vt145, .int .i64 vt450, .pointer (some ⟨b1, 0, none⟩), .int .i64 most7, .int .i64 vt17, .pointer (some ⟨b1, 0, none⟩), .int .i64 most7, .int .i64 vt24, .pointer (some ⟨b1, 0, none⟩), .int .i64 vt31, .pointer (some ⟨b1, 0, none⟩), .int .i64 vt38, .pointer (some ⟨b1, 0, none⟩), .int .i64 vt45, .agg #[.int .i64 vt17, .int .i64 vt24, .slice none 0 0, .slice none 0 0, .slice none 0 0, .int .i64 vt31, .int .i64 vt38, .int .i64 vt45], .pointer (some ⟨b1, 0, none⟩), .int .i64 vt63, (j132 0), (j132 1), (j132 2), (j132 3), (j132 4), (j132 5), (j132 6), (j132 7), (j132 8), (j132 9), (j132 10), (j132 11), (j132 12), .pointer (some ⟨b1, 0, none⟩), .int .i64 vt145, .pointer (some ⟨b52, 0, none⟩), .int .i64 vt17, .pointer (some ⟨b52, 1, none⟩), .int .i64 vt24, .int .i64 (w64 (vt17 * vt24)), .int .i64 x340, .bool true, .pointer (some ⟨b52, 2, none⟩), .slice A343 x342.length c344, .pointer (some ⟨b1, 0, none⟩), .int .i64 vt386, .slice (some ⟨b393, 0, none⟩) ([vt386] : List Int).length 1, .slice A402 (x342 ++ ([vt386] : List Int)).length c403, .pointer (some ⟨b52, 2, none⟩), .pointer (some ⟨b52, 3, none⟩), .slice A349 x348.length c350, .pointer (some ⟨b1, 0, none⟩), .int .i64 vt145, .int .i64 (w64 (vt145 * 16777216)), .int .i64 (w64 ((w64 (vt145 * 16777216)) + 1)), .int .i64 vt422, .slice (some ⟨b429, 0, none⟩) ([vt422] : List Int).length 1, .slice A438 (x348 ++ ([vt422] : List Int)).length c439, .pointer (some ⟨b52, 3, none⟩), .pointer (some ⟨b1, 0, none⟩), .int .i64 vt450, .pointer (some ⟨b1, 0, none⟩), .int .i64 vt461, .bool (vt461 == 0), (j339 24), (j339 25), (j339 26), (j339 27), (j339 28), (j339 29), (j339 30), (j339 31), (j339 32), (j339 33), (j339 34), (j339 35), undef], []⟩) (by kernel_rfl) ?_
      refine wpList_nil ?_
      refine hK460 _ _ ?_
      have hq_ := ite_some h; clear h; rcases hq_ with ⟨c469, h⟩ | ⟨c469, h⟩
      · have c469 : vt461 = 0 := c469
        refine wpRwI 66 (x := (vt461 == 0)) (v := true) (by kernel_rfl) (beq_iff_eq.mpr c469) ?_
        refine condT (by kernel_rfl) ?_
        refine wp_region_lit ?_
        have hq_ := bind_some h; clear h; obtain ⟨⟨vt470, vt471⟩, hc472, h⟩ := hq_
        refine seqL1 (by kernel_rfl) ?_
        refine seqK rfl (does_call (f := 25) (args := #[.pointer (some ⟨b1, 0, none⟩), .int .i64 512]) (by kernel_rfl) (spymake_Stream_Next.calls k b1 A4 c5 (⟨s3.L, vt462⟩ : S_Stream) 512 HS467 (HR6.mono (L21.trans (L28.trans (L35.trans (L42.trans (L49.trans (L67.trans (L129.trans (L149.trans (L336.trans (L390.trans (L426.trans (L454.trans L465))))))))))))) vt470 vt471 hc472) ?_)
        rintro _ W475 ⟨f473, rfl, L474, HS476⟩
        refine ⟨_, rfl, ?_⟩
        have hq_ := bind_some h; clear h; obtain ⟨⟨vt477, vt478⟩, hc479, h⟩ := hq_
        refine seqL1 (by kernel_rfl) ?_
        refine seqK rfl (does_call (f := 25) (args := #[.pointer (some ⟨b1, 0, none⟩), .int .i64 2]) (by kernel_rfl) (spymake_Stream_Next.calls k b1 A4 c5 (⟨s3.L, vt471⟩ : S_Stream) 2 HS476 (HR6.mono (L21.trans (L28.trans (L35.trans (L42.trans (L49.trans (L67.trans (L129.trans (L149.trans (L336.trans (L390.trans (L426.trans (L454.trans (L465.trans L474)))))))))))))) vt477 vt478 hc479) ?_)
        rintro _ W482 ⟨f480, rfl, L481, HS483⟩
        refine ⟨_, rfl, ?_⟩
        refine seqS2 (a' := ⟨#[.pointer (some ⟨b1, 0, none⟩), .int .i64 most7, undef, undef, .pointer (some ⟨b10, 0, none⟩), .pointer (some ⟨b52, 0, none⟩), .int .i64 vt145, .int .i64 (w64 (vt470 * vt477)), .pointer (some ⟨b1, 0, none⟩), .int .i64 most7, .int .i64 vt17, .pointer (some ⟨b1, 0, none⟩), .int .i64 most7, .int .i64 vt24, .pointer (some ⟨b1, 0, none⟩), .int .i64 vt31, .pointer (some ⟨b1, 0, none⟩), .int .i64 vt38, .pointer (some ⟨b1, 0, none⟩), .int .i64 vt45, .agg #[.int .i64 vt17, .int .i64 vt24, .slice none 0 0, .slice none 0 0, .slice none 0 0, .int .i64 vt31, .int .i64 vt38, .int .i64 vt45], .pointer (some ⟨b1, 0, none⟩), .int .i64 vt63, (j132 0), (j132 1), (j132 2), (j132 3), (j132 4), (j132 5), (j132 6), (j132 7), (j132 8), (j132 9), (j132 10), (j132 11), (j132 12), .pointer (some ⟨b1, 0, none⟩), .int .i64 vt145, .pointer (some ⟨b52, 0, none⟩), .int .i64 vt17, .pointer (some ⟨b52, 1, none⟩), .int .i64 vt24, .int .i64 (w64 (vt17 * vt24)), .int .i64 x340, .bool true, .pointer (some ⟨b52, 2, none⟩), .slice A343 x342.length c344, .pointer (some ⟨b1, 0, none⟩), .int .i64 vt386, .slice (some ⟨b393, 0, none⟩) ([vt386] : List Int).length 1, .slice A402 (x342 ++ ([vt386] : List Int)).length c403, .pointer (some ⟨b52, 2, none⟩), .pointer (some ⟨b52, 3, none⟩), .slice A349 x348.length c350, .pointer (some ⟨b1, 0, none⟩), .int .i64 vt145, .int .i64 (w64 (vt145 * 16777216)), .int .i64 (w64 ((w64 (vt145 * 16777216)) + 1)), .int .i64 vt422, .slice (some ⟨b429, 0, none⟩) ([vt422] : List Int).length 1, .slice A438 (x348 ++ ([vt422] : List Int)).length c439, .pointer (some ⟨b52, 3, none⟩), .pointer (some ⟨b1, 0, none⟩), .int .i64 vt450, .pointer (some ⟨b1, 0, none⟩), .int .i64 vt461, .bool true, .pointer (some ⟨b1, 0, none⟩), .int .i64 vt470, .pointer (some ⟨b1, 0, none⟩), .int .i64 vt477, .int .i64 (w64 (vt470 * vt477)), (j339 29), (j339 30), (j339 31), (j339 32), (j339 33), (j339 34), (j339 35), undef], []⟩) (by kernel_rfl) ?_
        refine wpList_nil ?_
        refine hK458 _ _ ?_
        refine wp_region_lit ?_
        refine seqL1 (by kernel_rfl) ?_
        refine seqK rfl (does_run (run_load rfl Try.underlying40 rfl (by kernel_rfl : _ = Value.pointer (some ⟨b52, 4, none⟩)) (HS483.u1.cell 4)) ?_)
        refine seqL1 (by kernel_rfl) ?_
        refine seqK rfl (does_lit (e := (tInt .i64)) (E := 3) (vs := #[(0, Value.int .i64 (w64 (vt470 * vt477)))]) (cs := #[.int .i64 (w64 (vt470 * vt477))]) (xs := ([w64 (vt470 * vt477)] : List Int)) rfl Try.underlying40 (by kernel_rfl) (by kernel_rfl) ⟨[.int .i64 (w64 (vt470 * vt477))], _, rfl, rfl, rfl⟩ rfl HS483 ?_ (by decide))
        intro b484 W485 s486 HS487 _ HO488
        have hq_ := guard_some h; clear h; obtain ⟨c490, h⟩ := hq_
        have c490 : (x354.length + 1) * 8 ≤ 140737488355328 := c490
        have HS491 := HS487.u5
        have HS492 := HS491.u1
        refine seqK rfl (does_append1 (e := (tInt .i64)) (E := 3) (xs := x354) (ys := ([w64 (vt470 * vt477)] : List Int)) rfl (by kernel_rfl : _ = Value.slice A355 x354.length c356) (by kernel_rfl : _ = Value.slice (some ⟨b484, 0, none⟩) ([w64 (vt470 * vt477)] : List Int).length 1) Try.underlying40 inf3 (HO358.mono (L390.trans (L426.trans (L454.trans (L465.trans (L474.trans L481)))))) HO488 HS492 c490 (lim63 c490 (by decide)) ?_)
        intro A493 c494 s495 W496 HS497 HO498
        have HS499 := HS497.u2
        refine seqL1 (by kernel_rfl) ?_
        refine seqK rfl (does_store (n := 1) (vs := [.slice A493 (x354 ++ ([w64 (vt470 * vt477)] : List Int)).length c494]) (cs' := #[.int .i64 vt17, .int .i64 vt24, .slice A402 (x342 ++ ([vt386] : List Int)).length c403, .slice A438 (x348 ++ ([vt422] : List Int)).length c439, .slice A493 (x354 ++ ([w64 (vt470 * vt477)] : List Int)).length c494, .int .i64 x134, .int .i64 x135, .int .i64 x136]) rfl (by kernel_rfl) (by kernel_rfl : _ = Value.pointer (some ⟨b52, 4, none⟩)) (by kernel_rfl : _ = Value.slice A493 (x354 ++ ([w64 (vt470 * vt477)] : List Int)).length c494) rfl rfl (by intro u_ hu_; simp only [List.mem_cons, List.not_mem_nil, or_false] at hu_; subst hu_; rfl) HS499 (Nat.le_of_ble_eq_true rfl) (by kernel_rfl) ?_)
        intro W500 HS501
        refine wpList_nil ?_
        refine hn370 _ _ ?_
        refine hK367 _ _ ?_
        refine wp_region_lit ?_
        refine seqS2 (a' := ⟨#[.pointer (some ⟨b1, 0, none⟩), .int .i64 most7, undef, undef, .pointer (some ⟨b10, 0, none⟩), .pointer (some ⟨b52, 0, none⟩), .int .i64 vt145, .int .i64 (w64 (vt470 * vt477)), .pointer (some ⟨b1, 0, none⟩), .int .i64 most7, .int .i64 vt17, .pointer (some ⟨b1, 0, none⟩), .int .i64 most7, .int .i64 vt24, .pointer (some ⟨b1, 0, none⟩), .int .i64 vt31, .pointer (some ⟨b1, 0, none⟩), .int .i64 vt38, .pointer (some ⟨b1, 0, none⟩), .int .i64 vt45, .agg #[.int .i64 vt17, .int .i64 vt24, .slice none 0 0, .slice none 0 0, .slice none 0 0, .int .i64 vt31, .int .i64 vt38, .int .i64 vt45], .pointer (some ⟨b1, 0, none⟩), .int .i64 vt63, (j132 0), (j132 1), (j132 2), (j132 3), (j132 4), (j132 5), (j132 6), (j132 7), (j132 8), (j132 9), (j132 10), (j132 11), (j132 12), .pointer (some ⟨b1, 0, none⟩), .int .i64 vt145, .pointer (some ⟨b52, 0, none⟩), .int .i64 vt17, .pointer (some ⟨b52, 1, none⟩), .int .i64 vt24, .int .i64 (w64 (vt17 * vt24)), .int .i64 (w64 (x340 + 1)), .bool true, .pointer (some ⟨b52, 2, none⟩), .slice A343 x342.length c344, .pointer (some ⟨b1, 0, none⟩), .int .i64 vt386, .slice (some ⟨b393, 0, none⟩) ([vt386] : List Int).length 1, .slice A402 (x342 ++ ([vt386] : List Int)).length c403, .pointer (some ⟨b52, 2, none⟩), .pointer (some ⟨b52, 3, none⟩), .slice A349 x348.length c350, .pointer (some ⟨b1, 0, none⟩), .int .i64 vt145, .int .i64 (w64 (vt145 * 16777216)), .int .i64 (w64 ((w64 (vt145 * 16777216)) + 1)), .int .i64 vt422, .slice (some ⟨b429, 0, none⟩) ([vt422] : List Int).length 1, .slice A438 (x348 ++ ([vt422] : List Int)).length c439, .pointer (some ⟨b52, 3, none⟩), .pointer (some ⟨b1, 0, none⟩), .int .i64 vt450, .pointer (some ⟨b1, 0, none⟩), .int .i64 vt461, .bool true, .pointer (some ⟨b1, 0, none⟩), .int .i64 vt470, .pointer (some ⟨b1, 0, none⟩), .int .i64 vt477, .int .i64 (w64 (vt470 * vt477)), .pointer (some ⟨b52, 4, none⟩), .slice A355 x354.length c356, .int .i64 (w64 (vt470 * vt477)), .slice (some ⟨b484, 0, none⟩) ([w64 (vt470 * vt477)] : List Int).length 1, .slice A493 (x354 ++ ([w64 (vt470 * vt477)] : List Int)).length c494, .pointer (some ⟨b52, 4, none⟩), .int .i64 (w64 (x340 + 1)), undef], []⟩) (by kernel_rfl) ?_
        refine wpList_nil ?_
        refine hK333 n334 _ _ (Nat.lt_succ_self _) ?_
        have HS553 := HS501.u5
        have HS554 := HS553.u1
        have HS555 := HS554.u3
        have HS556 := HS555.u5
        have HS557 := HS556.u5
        have HS558 := HS557.u5
        exact ⟨f480, A402, c403, s404, A438, c439, s440, A493, c494, s495, (w64 (x340 + 1)), vt478, (x342 ++ ([vt386] : List Int)), (x348 ++ ([vt422] : List Int)), (x354 ++ ([w64 (vt470 * vt477)] : List Int)), (fun i_ => [Value.int .i64 (w64 (vt470 * vt477)), Value.bool true, Value.pointer (some ⟨b52, 2, none⟩), Value.slice A343 x342.length c344, Value.pointer (some ⟨b1, 0, none⟩), Value.int .i64 vt386, Value.slice (some ⟨b393, 0, none⟩) ([vt386] : List Int).length 1, Value.slice A402 (x342 ++ ([vt386] : List Int)).length c403, Value.pointer (some ⟨b52, 2, none⟩), Value.pointer (some ⟨b52, 3, none⟩), Value.slice A349 x348.length c350, Value.pointer (some ⟨b1, 0, none⟩), Value.int .i64 vt145, Value.int .i64 (w64 (vt145 * 16777216)), Value.int .i64 (w64 ((w64 (vt145 * 16777216)) + 1)), Value.int .i64 vt422, Value.slice (some ⟨b429, 0, none⟩) ([vt422] : List Int).length 1, Value.slice A438 (x348 ++ ([vt422] : List Int)).length c439, Value.pointer (some ⟨b52, 3, none⟩), Value.pointer (some ⟨b1, 0, none⟩), Value.int .i64 vt450, Value.pointer (some ⟨b1, 0, none⟩), Value.int .i64 vt461, Value.bool true, Value.pointer (some ⟨b1, 0, none⟩), Value.int .i64 vt470, Value.pointer (some ⟨b1, 0, none⟩), Value.int .i64 vt477, Value.int .i64 (w64 (vt470 * vt477)), Value.pointer (some ⟨b52, 4, none⟩), Value.slice A355 x354.length c356, Value.int .i64 (w64 (vt470 * vt477)), Value.slice (some ⟨b484, 0, none⟩) ([w64 (vt470 * vt477)] : List Int).length 1, Value.slice A493 (x354 ++ ([w64 (vt470 * vt477)] : List Int)).length c494, Value.pointer (some ⟨b52, 4, none⟩), Value.int .i64 (w64 (x340 + 1))].getD i_ undef), (L336.trans (L390.trans (L426.trans (L454.trans (L465.trans (L474.trans L481)))))), HS558, (HO407.mono (L426.trans (L454.trans (L465.trans (L474.trans L481))))), (HO443.mono (L454.trans (L465.trans (L474.trans L481)))), HO498, h, (by kernel_rfl)⟩
      · have c469 : ¬ (vt461 = 0) := c469
        refine wpRwI 66 (x := (vt461 == 0)) (v := false) (by kernel_rfl) (beq_eq_false_iff_ne.mpr c469) ?_
        refine condF (by kernel_rfl) ?_
        refine wp_skip ?_
        refine hK458 _ _ ?_
        refine wp_region_lit ?_
        refine seqL1 (by kernel_rfl) ?_
        refine seqK rfl (does_run (run_load rfl Try.underlying40 rfl (by kernel_rfl : _ = Value.pointer (some ⟨b52, 4, none⟩)) (HS467.u1.cell 4)) ?_)
        refine seqL1 (by kernel_rfl) ?_
        refine seqK rfl (does_lit (e := (tInt .i64)) (E := 3) (vs := #[(0, Value.int .i64 vt450)]) (cs := #[.int .i64 vt450]) (xs := ([vt450] : List Int)) rfl Try.underlying40 (by kernel_rfl) (by kernel_rfl) ⟨[.int .i64 vt450], _, rfl, rfl, rfl⟩ rfl HS467 ?_ (by decide))
        intro b502 W503 s504 HS505 _ HO506
        have hq_ := guard_some h; clear h; obtain ⟨c508, h⟩ := hq_
        have c508 : (x354.length + 1) * 8 ≤ 140737488355328 := c508
        have HS509 := HS505.u5
        have HS510 := HS509.u1
        refine seqK rfl (does_append1 (e := (tInt .i64)) (E := 3) (xs := x354) (ys := ([vt450] : List Int)) rfl (by kernel_rfl : _ = Value.slice A355 x354.length c356) (by kernel_rfl : _ = Value.slice (some ⟨b502, 0, none⟩) ([vt450] : List Int).length 1) Try.underlying40 inf3 (HO358.mono (L390.trans (L426.trans (L454.trans L465)))) HO506 HS510 c508 (lim63 c508 (by decide)) ?_)
        intro A511 c512 s513 W514 HS515 HO516
        have HS517 := HS515.u2
        refine seqL1 (by kernel_rfl) ?_
        refine seqK rfl (does_store (n := 1) (vs := [.slice A511 (x354 ++ ([vt450] : List Int)).length c512]) (cs' := #[.int .i64 vt17, .int .i64 vt24, .slice A402 (x342 ++ ([vt386] : List Int)).length c403, .slice A438 (x348 ++ ([vt422] : List Int)).length c439, .slice A511 (x354 ++ ([vt450] : List Int)).length c512, .int .i64 x134, .int .i64 x135, .int .i64 x136]) rfl (by kernel_rfl) (by kernel_rfl : _ = Value.pointer (some ⟨b52, 4, none⟩)) (by kernel_rfl : _ = Value.slice A511 (x354 ++ ([vt450] : List Int)).length c512) rfl rfl (by intro u_ hu_; simp only [List.mem_cons, List.not_mem_nil, or_false] at hu_; subst hu_; rfl) HS517 (Nat.le_of_ble_eq_true rfl) (by kernel_rfl) ?_)
        intro W518 HS519
        refine wpList_nil ?_
        refine hn370 _ _ ?_
        refine hK367 _ _ ?_
        refine wp_region_lit ?_
        refine seqS2 (a' := ⟨#[.pointer (some ⟨b1, 0, none⟩), .int .i64 most7, undef, undef, .pointer (some ⟨b10, 0, none⟩), .pointer (some ⟨b52, 0, none⟩), .int .i64 vt145, .int .i64 vt450, .pointer (some ⟨b1, 0, none⟩), .int .i64 most7, .int .i64 vt17, .pointer (some ⟨b1, 0, none⟩), .int .i64 most7, .int .i64 vt24, .pointer (some ⟨b1, 0, none⟩), .int .i64 vt31, .pointer (some ⟨b1, 0, none⟩), .int .i64 vt38, .pointer (some ⟨b1, 0, none⟩), .int .i64 vt45, .agg #[.int .i64 vt17, .int .i64 vt24, .slice none 0 0, .slice none 0 0, .slice none 0 0, .int .i64 vt31, .int .i64 vt38, .int .i64 vt45], .pointer (some ⟨b1, 0, none⟩), .int .i64 vt63, (j132 0), (j132 1), (j132 2), (j132 3), (j132 4), (j132 5), (j132 6), (j132 7), (j132 8), (j132 9), (j132 10), (j132 11), (j132 12), .pointer (some ⟨b1, 0, none⟩), .int .i64 vt145, .pointer (some ⟨b52, 0, none⟩), .int .i64 vt17, .pointer (some ⟨b52, 1, none⟩), .int .i64 vt24, .int .i64 (w64 (vt17 * vt24)), .int .i64 (w64 (x340 + 1)), .bool true, .pointer (some ⟨b52, 2, none⟩), .slice A343 x342.length c344, .pointer (some ⟨b1, 0, none⟩), .int .i64 vt386, .slice (some ⟨b393, 0, none⟩) ([vt386] : List Int).length 1, .slice A402 (x342 ++ ([vt386] : List Int)).length c403, .pointer (some ⟨b52, 2, none⟩), .pointer (some ⟨b52, 3, none⟩), .slice A349 x348.length c350, .pointer (some ⟨b1, 0, none⟩), .int .i64 vt145, .int .i64 (w64 (vt145 * 16777216)), .int .i64 (w64 ((w64 (vt145 * 16777216)) + 1)), .int .i64 vt422, .slice (some ⟨b429, 0, none⟩) ([vt422] : List Int).length 1, .slice A438 (x348 ++ ([vt422] : List Int)).length c439, .pointer (some ⟨b52, 3, none⟩), .pointer (some ⟨b1, 0, none⟩), .int .i64 vt450, .pointer (some ⟨b1, 0, none⟩), .int .i64 vt461, .bool false, (j339 24), (j339 25), (j339 26), (j339 27), (j339 28), .pointer (some ⟨b52, 4, none⟩), .slice A355 x354.length c356, .int .i64 vt450, .slice (some ⟨b502, 0, none⟩) ([vt450] : List Int).length 1, .slice A511 (x354 ++ ([vt450] : List Int)).length c512, .pointer (some ⟨b52, 4, none⟩), .int .i64 (w64 (x340 + 1)), undef], []⟩) (by kernel_rfl) ?_
        refine wpList_nil ?_
        refine hK333 n334 _ _ (Nat.lt_succ_self _) ?_
        have HS559 := HS519.u5
        have HS560 := HS559.u1
        have HS561 := HS560.u3
        have HS562 := HS561.u5
        have HS563 := HS562.u5
        have HS564 := HS563.u5
        exact ⟨f464, A402, c403, s404, A438, c439, s440, A511, c512, s513, (w64 (x340 + 1)), vt462, (x342 ++ ([vt386] : List Int)), (x348 ++ ([vt422] : List Int)), (x354 ++ ([vt450] : List Int)), (fun i_ => [Value.int .i64 vt450, Value.bool true, Value.pointer (some ⟨b52, 2, none⟩), Value.slice A343 x342.length c344, Value.pointer (some ⟨b1, 0, none⟩), Value.int .i64 vt386, Value.slice (some ⟨b393, 0, none⟩) ([vt386] : List Int).length 1, Value.slice A402 (x342 ++ ([vt386] : List Int)).length c403, Value.pointer (some ⟨b52, 2, none⟩), Value.pointer (some ⟨b52, 3, none⟩), Value.slice A349 x348.length c350, Value.pointer (some ⟨b1, 0, none⟩), Value.int .i64 vt145, Value.int .i64 (w64 (vt145 * 16777216)), Value.int .i64 (w64 ((w64 (vt145 * 16777216)) + 1)), Value.int .i64 vt422, Value.slice (some ⟨b429, 0, none⟩) ([vt422] : List Int).length 1, Value.slice A438 (x348 ++ ([vt422] : List Int)).length c439, Value.pointer (some ⟨b52, 3, none⟩), Value.pointer (some ⟨b1, 0, none⟩), Value.int .i64 vt450, Value.pointer (some ⟨b1, 0, none⟩), Value.int .i64 vt461, Value.bool false, (j339 24), (j339 25), (j339 26), (j339 27), (j339 28), Value.pointer (some ⟨b52, 4, none⟩), Value.slice A355 x354.length c356, Value.int .i64 vt450, Value.slice (some ⟨b502, 0, none⟩) ([vt450] : List Int).length 1, Value.slice A511 (x354 ++ ([vt450] : List Int)).length c512, Value.pointer (some ⟨b52, 4, none⟩), Value.int .i64 (w64 (x340 + 1))].getD i_ undef), (L336.trans (L390.trans (L426.trans (L454.trans L465)))), HS564, (HO407.mono (L426.trans (L454.trans L465))), (HO443.mono (L454.trans L465)), HO516, h, (by kernel_rfl)⟩
    · have c365 : ¬ (x340 < (w64 (vt17 * vt24))) := c365
      refine wpRwI 44 (x := (decide (x340 < (w64 (vt17 * vt24))))) (v := false) (by kernel_rfl) (decide_eq_false c365) ?_
      refine condF (by kernel_rfl) ?_
      refine wp_exit ?_
      refine hx157 _ _ ?_
      exact J545 f335 A343 c344 s345 A349 c350 s351 A355 c356 s357 x341 x342 x348 x354 (fun i_ => [(j339 0), Value.int .i64 x340, Value.bool false, (j339 2), (j339 3), (j339 4), (j339 5), (j339 6), (j339 7), (j339 8), (j339 9), (j339 10), (j339 11), (j339 12), (j339 13), (j339 14), (j339 15), (j339 16), (j339 17), (j339 18), (j339 19), (j339 20), (j339 21), (j339 22), (j339 23), (j339 24), (j339 25), (j339 26), (j339 27), (j339 28), (j339 29), (j339 30), (j339 31), (j339 32), (j339 33), (j339 34), (j339 35)].getD i_ undef) W337 _ L336 h HS338 HO346 HO352 HO358 (by kernel_rfl)
  clear h; have h := hv137; clear hv137
  have hq_ := ite_some h; clear h; rcases hq_ with ⟨c80, h⟩ | ⟨c80, h⟩
  · have c80 : vt63 = 0 := c80
    refine wpRwI 23 (x := (vt63 == 0)) (v := true) (by kernel_rfl) (beq_iff_eq.mpr c80) ?_
    refine wpRwI 24 (x := (vt63 == 0)) (v := true) (by kernel_rfl) (beq_iff_eq.mpr c80) ?_
    refine condT (by kernel_rfl) ?_
    refine wp_region_lit ?_
    have hq_ := bind_some h; clear h; obtain ⟨⟨vt81, vt82⟩, hc83, h⟩ := hq_
    refine seqL1 (by kernel_rfl) ?_
    refine seqK rfl (does_call (f := 43) (args := #[.pointer (some ⟨b1, 0, none⟩), .int .i64 200, .int .i64 5000]) (by kernel_rfl) (spymake_Stream_Range.calls k b1 A4 c5 (⟨s3.L, vt64⟩ : S_Stream) 200 5000 HS69 (HR6.mono (L21.trans (L28.trans (L35.trans (L42.trans (L49.trans L67)))))) vt81 vt82 hc83) ?_)
    rintro _ W86 ⟨f84, rfl, L85, HS87⟩
    refine ⟨_, rfl, ?_⟩
    have HS88 := HS87.u1
    refine seqL1 (by kernel_rfl) ?_
    refine seqK rfl (does_store (n := 1) (vs := [.int .i64 vt81]) (cs' := #[.int .i64 vt17, .int .i64 vt24, .slice none 0 0, .slice none 0 0, .slice none 0 0, .int .i64 vt81, .int .i64 vt38, .int .i64 vt45]) rfl (by kernel_rfl) (by kernel_rfl : _ = Value.pointer (some ⟨b52, 5, none⟩)) (by kernel_rfl : _ = Value.int .i64 vt81) rfl rfl (by intro u_ hu_; simp only [List.mem_cons, List.not_mem_nil, or_false] at hu_; subst hu_; rfl) HS88 (Nat.le_of_ble_eq_true rfl) (by kernel_rfl) ?_)
    intro W89 HS90
    refine wpList_nil ?_
    have HS140 := HS90.u2
    have HS141 := HS140.u1
    have HS142 := HS141.u2
    exact J138 f84 vt82 vt81 vt38 vt45 (fun i_ => [Value.bool true, Value.bool true, Value.pointer (some ⟨b1, 0, none⟩), Value.int .i64 vt81, Value.pointer (some ⟨b52, 5, none⟩), undef, undef, undef, undef, undef, undef, undef, undef].getD i_ undef) W89 _ L85 h HS142 (by kernel_rfl)
  · have c80 : ¬ (vt63 = 0) := c80
    refine wpRwI 23 (x := (vt63 == 0)) (v := false) (by kernel_rfl) (beq_eq_false_iff_ne.mpr c80) ?_
    refine wpRwI 24 (x := (vt63 == 0)) (v := false) (by kernel_rfl) (beq_eq_false_iff_ne.mpr c80) ?_
    refine condF (by kernel_rfl) ?_
    refine wp_seq_k (fun K91 hK92 => ?_)
    refine wp_region_lit ?_
    refine seqS2 (a' := ⟨#[.pointer (some ⟨b1, 0, none⟩), .int .i64 most7, undef, undef, .pointer (some ⟨b10, 0, none⟩), .pointer (some ⟨b52, 0, none⟩), undef, undef, .pointer (some ⟨b1, 0, none⟩), .int .i64 most7, .int .i64 vt17, .pointer (some ⟨b1, 0, none⟩), .int .i64 most7, .int .i64 vt24, .pointer (some ⟨b1, 0, none⟩), .int .i64 vt31, .pointer (some ⟨b1, 0, none⟩), .int .i64 vt38, .pointer (some ⟨b1, 0, none⟩), .int .i64 vt45, .agg #[.int .i64 vt17, .int .i64 vt24, .slice none 0 0, .slice none 0 0, .slice none 0 0, .int .i64 vt31, .int .i64 vt38, .int .i64 vt45], .pointer (some ⟨b1, 0, none⟩), .int .i64 vt63, .bool false, .bool false, undef, undef, undef, .bool (vt63 == 1), .bool (vt63 == 1), undef, undef, undef, undef, undef, undef, undef, undef, undef, undef, undef, undef, undef, undef, undef, undef, undef, undef, undef, undef, undef, undef, undef, undef, undef, undef, undef, undef, undef, undef, undef, undef, undef, undef, undef, undef, undef, undef, undef, undef, undef, undef, undef, undef, undef, undef, undef, undef, undef, undef], []⟩) (by kernel_rfl) ?_
    refine wpList_nil ?_
    refine hK92 _ _ ?_
    have hq_ := bind_some h; clear h; obtain ⟨v93, hv122, h⟩ := hq_
    have J123 : ∀ (f114 : FM) (x119 : Int) (x120 : Int) (x121 : Int) (j118 : Nat → Value) (W116 : World) (a_ : Act), FM.le f66 f114 → some ((x119, x120, x121)) = some v93 → St t W116 f114 ([(b1, .cells #[.slice A4 s3.L.length c5, .int .i64 x119] 43 (0, 0))] :: [(b52, .cells #[.int .i64 vt17, .int .i64 vt24, .slice none 0 0, .slice none 0 0, .slice none 0 0, .int .i64 vt31, .int .i64 x120, .int .i64 x121] 46 (0, 0))] :: [(b10, .cells #[.int .i64 0, .int .i64 0, .slice none 0 0, .slice none 0 0, .slice none 0 0, .int .i64 0, .int .i64 0, .int .i64 0] 46 (0, 0))] :: H) → a_ = ⟨#[.pointer (some ⟨b1, 0, none⟩), .int .i64 most7, undef, undef, .pointer (some ⟨b10, 0, none⟩), .pointer (some ⟨b52, 0, none⟩), undef, undef, .pointer (some ⟨b1, 0, none⟩), .int .i64 most7, .int .i64 vt17, .pointer (some ⟨b1, 0, none⟩), .int .i64 most7, .int .i64 vt24, .pointer (some ⟨b1, 0, none⟩), .int .i64 vt31, .pointer (some ⟨b1, 0, none⟩), .int .i64 vt38, .pointer (some ⟨b1, 0, none⟩), .int .i64 vt45, .agg #[.int .i64 vt17, .int .i64 vt24, .slice none 0 0, .slice none 0 0, .slice none 0 0, .int .i64 vt31, .int .i64 vt38, .int .i64 vt45], .pointer (some ⟨b1, 0, none⟩), .int .i64 vt63, .bool false, .bool false, undef, undef, undef, (j118 0), (j118 1), (j118 2), (j118 3), (j118 4), (j118 5), (j118 6), (j118 7), undef, undef, undef, undef, undef, undef, undef, undef, undef, undef, undef, undef, undef, undef, undef, undef, undef, undef, undef, undef, undef, undef, undef, undef, undef, undef, undef, undef, undef, undef, undef, undef, undef, undef, undef, undef, undef, undef, undef, undef, undef, undef, undef, undef], []⟩ → B70 Exit.normal a_ W116 := by
      intro f114 x119 x120 x121 j118 W116 a_ L115 hj124 HS117  hfr_; subst hfr_
      injection hj124 with hj124; subst hj124; try dsimp only at h
      exact J138 f114 x119 vt31 x120 x121 (fun i_ => [Value.bool false, Value.bool false, undef, undef, undef, (j118 0), (j118 1), (j118 2), (j118 3), (j118 4), (j118 5), (j118 6), (j118 7)].getD i_ undef) W116 _ L115 h HS117 (by kernel_rfl)
    clear h; have h := hv122; clear hv122
    have hq_ := ite_some h; clear h; rcases hq_ with ⟨c94, h⟩ | ⟨c94, h⟩
    · have c94 : vt63 = 1 := c94
      refine wpRwI 28 (x := (vt63 == 1)) (v := true) (by kernel_rfl) (beq_iff_eq.mpr c94) ?_
      refine wpRwI 29 (x := (vt63 == 1)) (v := true) (by kernel_rfl) (beq_iff_eq.mpr c94) ?_
      refine condT (by kernel_rfl) ?_
      refine wp_region_lit ?_
      have hq_ := bind_some h; clear h; obtain ⟨⟨vt95, vt96⟩, hc97, h⟩ := hq_
      refine seqL1 (by kernel_rfl) ?_
      refine seqK rfl (does_call (f := 43) (args := #[.pointer (some ⟨b1, 0, none⟩), .int .i64 1, .int .i64 64]) (by kernel_rfl) (spymake_Stream_Range.calls k b1 A4 c5 (⟨s3.L, vt64⟩ : S_Stream) 1 64 HS69 (HR6.mono (L21.trans (L28.trans (L35.trans (L42.trans (L49.trans L67)))))) vt95 vt96 hc97) ?_)
      rintro _ W100 ⟨f98, rfl, L99, HS101⟩
      refine ⟨_, rfl, ?_⟩
      have hq_ := bind_some h; clear h; obtain ⟨⟨vt102, vt103⟩, hc104, h⟩ := hq_
      refine seqL1 (by kernel_rfl) ?_
      refine seqK rfl (does_call (f := 25) (args := #[.pointer (some ⟨b1, 0, none⟩), .int .i64 20]) (by kernel_rfl) (spymake_Stream_Next.calls k b1 A4 c5 (⟨s3.L, vt96⟩ : S_Stream) 20 HS101 (HR6.mono (L21.trans (L28.trans (L35.trans (L42.trans (L49.trans (L67.trans L99))))))) vt102 vt103 hc104) ?_)
      rintro _ W107 ⟨f105, rfl, L106, HS108⟩
      refine ⟨_, rfl, ?_⟩
      have HS109 := HS108.u1
      refine seqL1 (by kernel_rfl) ?_
      refine seqK rfl (does_store (n := 1) (vs := [.int .i64 vt95]) (cs' := #[.int .i64 vt17, .int .i64 vt24, .slice none 0 0, .slice none 0 0, .slice none 0 0, .int .i64 vt31, .int .i64 vt95, .int .i64 vt45]) rfl (by kernel_rfl) (by kernel_rfl : _ = Value.pointer (some ⟨b52, 6, none⟩)) (by kernel_rfl : _ = Value.int .i64 vt95) rfl rfl (by intro u_ hu_; simp only [List.mem_cons, List.not_mem_nil, or_false] at hu_; subst hu_; rfl) HS109 (Nat.le_of_ble_eq_true rfl) (by kernel_rfl) ?_)
      intro W110 HS111
      refine seqL1 (by kernel_rfl) ?_
      refine seqK rfl (does_store (n := 1) (vs := [.int .i64 vt102]) (cs' := #[.int .i64 vt17, .int .i64 vt24, .slice none 0 0, .slice none 0 0, .slice none 0 0, .int .i64 vt31, .int .i64 vt95, .int .i64 vt102]) rfl (by kernel_rfl) (by kernel_rfl : _ = Value.pointer (some ⟨b52, 7, none⟩)) (by kernel_rfl : _ = Value.int .i64 vt102) rfl rfl (by intro u_ hu_; simp only [List.mem_cons, List.not_mem_nil, or_false] at hu_; subst hu_; rfl) HS111 (Nat.le_of_ble_eq_true rfl) (by kernel_rfl) ?_)
      intro W112 HS113
      refine wpList_nil ?_
      have HS125 := HS113.u2
      have HS126 := HS125.u1
      have HS127 := HS126.u2
      exact J123 f105 vt103 vt95 vt102 (fun i_ => [Value.bool true, Value.bool true, Value.pointer (some ⟨b1, 0, none⟩), Value.int .i64 vt95, Value.pointer (some ⟨b1, 0, none⟩), Value.int .i64 vt102, Value.pointer (some ⟨b52, 6, none⟩), Value.pointer (some ⟨b52, 7, none⟩)].getD i_ undef) W112 _ (L99.trans L106) h HS127 (by kernel_rfl)
    · have c94 : ¬ (vt63 = 1) := c94
      refine wpRwI 28 (x := (vt63 == 1)) (v := false) (by kernel_rfl) (beq_eq_false_iff_ne.mpr c94) ?_
      refine wpRwI 29 (x := (vt63 == 1)) (v := false) (by kernel_rfl) (beq_eq_false_iff_ne.mpr c94) ?_
      refine condF (by kernel_rfl) ?_
      refine wp_skip ?_
      exact J123 f66 vt64 vt38 vt45 (fun i_ => [Value.bool false, Value.bool false, undef, undef, undef, undef, undef, undef].getD i_ undef) W68 _ (FM.le.refl _) h HS69 (by kernel_rfl)

set_option maxRecDepth 100000 in
set_option maxHeartbeats 4000000 in
theorem spykeep3_filled.calls (k : Nat) (b1 : Nat) (A4 : Option Addr) (c5 : Nat) (A8 : Option Addr) (c9 : Nat) (A11 : Option Addr) (c12 : Nat) (A14 : Option Addr) (c15 : Nat) (s3 : S_Stream) (c7 : S_Sensor) {t w : World} {f : FM} {H : List Seg} (HS : St t w f ([(b1, .cells #[.slice A4 s3.L.length c5, .int .i64 s3.vat] 43 (0, 0))] :: H)) (HR6 : SlR (tInt .i64) f A4 c5 s3.L) (HR10 : SlR (tInt .i64) f A8 c9 c7.Bias) (HR13 : SlR (tInt .i64) f A11 c12 c7.Dark) (HR16 : SlR (tInt .i64) f A14 c15 c7.Flat) (r1 : List Int) (r2 : Int) (h : spykeep3_filled k s3 c7 = some (r1, r2)) :
    Calls Try.prog 20 #[.pointer (some ⟨b1, 0, none⟩), .agg #[.int .i64 c7.W, .int .i64 c7.H, .slice A8 c7.Bias.length c9, .slice A11 c7.Dark.length c12, .slice A14 c7.Flat.length c15, .int .i64 c7.Full, .int .i64 c7.Gain, .int .i64 c7.Noise]] w (fun e w' => ∃ (g : FM) (A247 : Option Addr) (c248 : Nat) (s249 : Seg), e = .returned (Value.slice A247 r1.length c248) ∧ FM.le f g ∧ St t w' g (s249 :: [(b1, .cells #[.slice A4 s3.L.length c5, .int .i64 r2] 43 (0, 0))] :: H) ∧ Own (tInt .i64) 22 g A247 c248 s249 r1) := by
  unfold spykeep3_filled at h
  refine enter Try.func20 rfl (tm := #[.pointer (some ⟨b1, 0, none⟩), .agg #[.int .i64 c7.W, .int .i64 c7.H, .slice A8 c7.Bias.length c9, .slice A11 c7.Dark.length c12, .slice A14 c7.Flat.length c15, .int .i64 c7.Full, .int .i64 c7.Gain, .int .i64 c7.Noise], undef, undef, undef, undef, undef, undef, undef, undef, undef, undef, undef, undef, undef, undef, undef, undef, undef, undef, undef, undef, undef, undef, undef, undef, undef, undef, undef, undef, undef, undef, undef]) (by kernel_rfl) ?_
  intro B hret hnor hnp
  refine wp_seq_k (fun K17 hK18 => ?_)
  refine wp_region_lit ?_
  refine seqK rfl (does_box (cs := #[.int .i64 c7.W, .int .i64 c7.H, .slice A8 c7.Bias.length c9, .slice A11 c7.Dark.length c12, .slice A14 c7.Flat.length c15, .int .i64 c7.Full, .int .i64 c7.Gain, .int .i64 c7.Noise]) rfl (by kernel_rfl : _ = Value.agg #[.int .i64 c7.W, .int .i64 c7.H, .slice A8 c7.Bias.length c9, .slice A11 c7.Dark.length c12, .slice A14 c7.Flat.length c15, .int .i64 c7.Full, .int .i64 c7.Gain, .int .i64 c7.Noise]) rfl HS ?_)
  intro b19 W20 HS21
  refine seqS1 (a' := ⟨#[.pointer (some ⟨b1, 0, none⟩), .agg #[.int .i64 c7.W, .int .i64 c7.H, .slice A8 c7.Bias.length c9, .slice A11 c7.Dark.length c12, .slice A14 c7.Flat.length c15, .int .i64 c7.Full, .int .i64 c7.Gain, .int .i64 c7.Noise], undef, .pointer (some ⟨b19, 0, none⟩), .slice none 0 0, undef, undef, undef, undef, undef, undef, undef, undef, undef, undef, undef, undef, undef, undef, undef, undef, undef, undef, undef, undef, undef, undef, undef, undef, undef, undef, undef, undef], []⟩) (by kernel_rfl) ?_
  refine wpList_nil ?_
  refine hK18 _ _ ?_
  refine wp_seq_k (fun K23 hK24 => ?_)
  refine wp_region_lit ?_
  refine seqS1 (a' := ⟨#[.pointer (some ⟨b1, 0, none⟩), .agg #[.int .i64 c7.W, .int .i64 c7.H, .slice A8 c7.Bias.length c9, .slice A11 c7.Dark.length c12, .slice A14 c7.Flat.length c15, .int .i64 c7.Full, .int .i64 c7.Gain, .int .i64 c7.Noise], undef, .pointer (some ⟨b19, 0, none⟩), .slice none 0 0, .slice none 0 0, undef, undef, undef, undef, undef, undef, undef, undef, undef, undef, undef, undef, undef, undef, undef, undef, undef, undef, undef, undef, undef, undef, undef, undef, undef, undef, undef], []⟩) (by kernel_rfl) ?_
  refine wpList_nil ?_
  refine hK24 _ _ ?_
  refine wp_seq_k (fun K25 hK26 => ?_)
  refine wp_seq_k (fun K27 hK28 => ?_)
  refine wp_region_lit ?_
  refine seqL1 (by kernel_rfl) ?_
  refine seqK rfl (does_run (run_load rfl Try.underlying3 rfl (by kernel_rfl : _ = Value.pointer (some ⟨b19, 0, none⟩)) (HS21.cell 0)) ?_)
  refine seqL1 (by kernel_rfl) ?_
  refine seqK rfl (does_run (run_load rfl Try.underlying3 rfl (by kernel_rfl : _ = Value.pointer (some ⟨b19, 1, none⟩)) (HS21.cell 1)) ?_)
  refine seqS2 (a' := ⟨#[.pointer (some ⟨b1, 0, none⟩), .agg #[.int .i64 c7.W, .int .i64 c7.H, .slice A8 c7.Bias.length c9, .slice A11 c7.Dark.length c12, .slice A14 c7.Flat.length c15, .int .i64 c7.Full, .int .i64 c7.Gain, .int .i64 c7.Noise], undef, .pointer (some ⟨b19, 0, none⟩), .slice none 0 0, .slice none 0 0, undef, .pointer (some ⟨b19, 0, none⟩), .int .i64 c7.W, .pointer (some ⟨b19, 1, none⟩), .int .i64 c7.H, .int .i64 (w64 (c7.W * c7.H)), .int .i64 0, undef, undef, undef, undef, undef, undef, undef, undef, undef, undef, undef, undef, undef, undef, undef, undef, undef, undef, undef, undef], []⟩) (by kernel_rfl) ?_
  refine wpList_nil ?_
  refine hK28 _ _ ?_
  refine blockK (fun B29 hx30 hn31 hr32 ho33 hp34 => ?_)
  have hq_ := bind_some h; clear h; obtain ⟨o126, hv230, h⟩ := hq_
  have J231 : ∀ (f218 : FM) (A224 : Option Addr) (c225 : Nat) (s226 : Seg) (out223 : List Int) (x229 : Int) (j222 : Nat → Value) (W220 : World) (a_ : Act), FM.le f f218 → some ((out223, x229)) = some o126 → St t W220 f218 (s226 :: [(b19, .cells #[.int .i64 c7.W, .int .i64 c7.H, .slice A8 c7.Bias.length c9, .slice A11 c7.Dark.length c12, .slice A14 c7.Flat.length c15, .int .i64 c7.Full, .int .i64 c7.Gain, .int .i64 c7.Noise] 46 (0, 0))] :: [(b1, .cells #[.slice A4 s3.L.length c5, .int .i64 x229] 43 (0, 0))] :: H) → Own (tInt .i64) 22 f218 A224 c225 s226 out223 → a_ = ⟨#[.pointer (some ⟨b1, 0, none⟩), .agg #[.int .i64 c7.W, .int .i64 c7.H, .slice A8 c7.Bias.length c9, .slice A11 c7.Dark.length c12, .slice A14 c7.Flat.length c15, .int .i64 c7.Full, .int .i64 c7.Gain, .int .i64 c7.Noise], undef, .pointer (some ⟨b19, 0, none⟩), .slice none 0 0, .slice A224 out223.length c225, (j222 0), .pointer (some ⟨b19, 0, none⟩), .int .i64 c7.W, .pointer (some ⟨b19, 1, none⟩), .int .i64 c7.H, .int .i64 (w64 (c7.W * c7.H)), (j222 1), (j222 2), (j222 3), (j222 4), (j222 5), (j222 6), (j222 7), (j222 8), (j222 9), (j222 10), (j222 11), (j222 12), (j222 13), (j222 14), (j222 15), (j222 16), (j222 17), (j222 18), (j222 19), (j222 20), undef], []⟩ → K25 a_ W220 := by
    intro f218 A224 c225 s226 out223 x229 j222 W220 a_ L219 hj232 HS221 HO227 hfr_; subst hfr_
    injection hj232 with hj232; subst hj232; try dsimp only at h
    refine hK26 _ _ ?_
    refine wp_seq_k (fun K241 hK242 => ?_)
    refine wp_region_lit ?_
    refine seqS2 (a' := ⟨#[.pointer (some ⟨b1, 0, none⟩), .agg #[.int .i64 c7.W, .int .i64 c7.H, .slice A8 c7.Bias.length c9, .slice A11 c7.Dark.length c12, .slice A14 c7.Flat.length c15, .int .i64 c7.Full, .int .i64 c7.Gain, .int .i64 c7.Noise], undef, .pointer (some ⟨b19, 0, none⟩), .slice A224 out223.length c225, .slice A224 out223.length c225, (j222 0), .pointer (some ⟨b19, 0, none⟩), .int .i64 c7.W, .pointer (some ⟨b19, 1, none⟩), .int .i64 c7.H, .int .i64 (w64 (c7.W * c7.H)), (j222 1), (j222 2), (j222 3), (j222 4), (j222 5), (j222 6), (j222 7), (j222 8), (j222 9), (j222 10), (j222 11), (j222 12), (j222 13), (j222 14), (j222 15), (j222 16), (j222 17), (j222 18), (j222 19), (j222 20), .slice A224 out223.length c225], []⟩) (by kernel_rfl) ?_
    refine wpList_nil ?_
    refine hK242 _ _ ?_
    refine wp_ret ?_
    refine hret _ _ ?_
    refine ends_still (v := Value.slice A224 out223.length c225) (by kernel_rfl) (by kernel_rfl) ?_
    have HS243 := HS221.u2
    have HS244 := HS243.u1
    have HS245 := HS244.u2
    have HS246 := HS245.drop
    injection h with h
    injection h with h0_ h
    subst h0_ h
    exact ⟨f218, A224, c225, s226, rfl, L219, HS246, HO227⟩
  clear h; have h := hv230; clear hv230
  have HS233 := HS21.cons_nil
  refine loopK (fun n_ a_ w_ => ∃ (f130 : FM) (A136 : Option Addr) (c137 : Nat) (s138 : Seg) (out135 : List Int) (x141 : Int) (x142 : Int) (j134 : Nat → Value), FM.le f f130 ∧ St t w_ f130 (s138 :: [(b19, .cells #[.int .i64 c7.W, .int .i64 c7.H, .slice A8 c7.Bias.length c9, .slice A11 c7.Dark.length c12, .slice A14 c7.Flat.length c15, .int .i64 c7.Full, .int .i64 c7.Gain, .int .i64 c7.Noise] 46 (0, 0))] :: [(b1, .cells #[.slice A4 s3.L.length c5, .int .i64 x142] 43 (0, 0))] :: H) ∧ Own (tInt .i64) 22 f130 A136 c137 s138 out135 ∧ spykeep3_filled.l0 k c7 s3 n_ out135 x141 x142 = some o126 ∧ a_ = ⟨#[.pointer (some ⟨b1, 0, none⟩), .agg #[.int .i64 c7.W, .int .i64 c7.H, .slice A8 c7.Bias.length c9, .slice A11 c7.Dark.length c12, .slice A14 c7.Flat.length c15, .int .i64 c7.Full, .int .i64 c7.Gain, .int .i64 c7.Noise], undef, .pointer (some ⟨b19, 0, none⟩), .slice none 0 0, .slice A136 out135.length c137, (j134 0), .pointer (some ⟨b19, 0, none⟩), .int .i64 c7.W, .pointer (some ⟨b19, 1, none⟩), .int .i64 c7.H, .int .i64 (w64 (c7.W * c7.H)), .int .i64 x141, (j134 1), (j134 2), (j134 3), (j134 4), (j134 5), (j134 6), (j134 7), (j134 8), (j134 9), (j134 10), (j134 11), (j134 12), (j134 13), (j134 14), (j134 15), (j134 16), (j134 17), (j134 18), (j134 19), undef], []⟩) k ⟨f, none, 0, [], ([] : List Int), 0, s3.vat, (fun i_ => [undef, undef, undef, undef, undef, undef, undef, undef, undef, undef, undef, undef, undef, undef, undef, undef, undef, undef, undef, undef].getD i_ undef), (FM.le.refl _), HS233, (Own.nil _), h, (by kernel_rfl)⟩ ?_
  clear h
  rintro n129 _ W132 ⟨f130, A136, c137, s138, out135, x141, x142, j134, L131, HS133, HO139, h, rfl⟩ K127 hK128
  obtain _ | n129 := n129
  · exact nomatch h
  simp only [spykeep3_filled.l0] at h
  refine wp_seq_k (fun K143 hK144 => ?_)
  refine wp_region_lit ?_
  refine seqS1 (a' := ⟨#[.pointer (some ⟨b1, 0, none⟩), .agg #[.int .i64 c7.W, .int .i64 c7.H, .slice A8 c7.Bias.length c9, .slice A11 c7.Dark.length c12, .slice A14 c7.Flat.length c15, .int .i64 c7.Full, .int .i64 c7.Gain, .int .i64 c7.Noise], undef, .pointer (some ⟨b19, 0, none⟩), .slice none 0 0, .slice A136 out135.length c137, (j134 0), .pointer (some ⟨b19, 0, none⟩), .int .i64 c7.W, .pointer (some ⟨b19, 1, none⟩), .int .i64 c7.H, .int .i64 (w64 (c7.W * c7.H)), .int .i64 x141, .bool (decide (x141 < (w64 (c7.W * c7.H)))), (j134 2), (j134 3), (j134 4), (j134 5), (j134 6), (j134 7), (j134 8), (j134 9), (j134 10), (j134 11), (j134 12), (j134 13), (j134 14), (j134 15), (j134 16), (j134 17), (j134 18), (j134 19), undef], []⟩) (by kernel_rfl) ?_
  refine wpList_nil ?_
  refine hK144 _ _ ?_
  refine wp_seq_k (fun K145 hK146 => ?_)
  have hq_ := ite_some h; clear h; rcases hq_ with ⟨c148, h⟩ | ⟨c148, h⟩
  · have c148 : x141 < (w64 (c7.W * c7.H)) := c148
    refine wpRwI 13 (x := (decide (x141 < (w64 (c7.W * c7.H))))) (v := true) (by kernel_rfl) (decide_eq_true c148) ?_
    refine condT (by kernel_rfl) ?_
    refine wp_skip ?_
    refine hK146 _ _ ?_
    refine wp_seq_k (fun K149 hK150 => ?_)
    refine blockK (fun B151 hx152 hn153 hr154 ho155 hp156 => ?_)
    refine wp_seq_k (fun K158 hK159 => ?_)
    refine wp_region_lit ?_
    refine seqL2 (by kernel_rfl) ?_
    refine seqK rfl (does_run (run_load rfl Try.underlying22 rfl (by kernel_rfl : _ = Value.pointer (some ⟨b19, 5, none⟩)) (HS133.u1.cell 5)) ?_)
    have HS160 := HS133.u2
    have hq_ := bind_some h; clear h; obtain ⟨⟨vt161, vt162⟩, hc163, h⟩ := hq_
    refine seqL1 (by kernel_rfl) ?_
    refine seqK rfl (does_call (f := 25) (args := #[.pointer (some ⟨b1, 0, none⟩), .int .i64 (w64 (c7.Full + 1))]) (by kernel_rfl) (spymake_Stream_Next.calls k b1 A4 c5 (⟨s3.L, x142⟩ : S_Stream) (w64 (c7.Full + 1)) HS160 (HR6.mono L131) vt161 vt162 hc163) ?_)
    rintro _ W166 ⟨f164, rfl, L165, HS167⟩
    refine ⟨_, rfl, ?_⟩
    refine seqS1 (a' := ⟨#[.pointer (some ⟨b1, 0, none⟩), .agg #[.int .i64 c7.W, .int .i64 c7.H, .slice A8 c7.Bias.length c9, .slice A11 c7.Dark.length c12, .slice A14 c7.Flat.length c15, .int .i64 c7.Full, .int .i64 c7.Gain, .int .i64 c7.Noise], undef, .pointer (some ⟨b19, 0, none⟩), .slice none 0 0, .slice A136 out135.length c137, .int .i64 vt161, .pointer (some ⟨b19, 0, none⟩), .int .i64 c7.W, .pointer (some ⟨b19, 1, none⟩), .int .i64 c7.H, .int .i64 (w64 (c7.W * c7.H)), .int .i64 x141, .bool true, .pointer (some ⟨b1, 0, none⟩), .pointer (some ⟨b19, 5, none⟩), .int .i64 c7.Full, .int .i64 (w64 (c7.Full + 1)), .int .i64 vt161, (j134 7), (j134 8), (j134 9), (j134 10), (j134 11), (j134 12), (j134 13), (j134 14), (j134 15), (j134 16), (j134 17), (j134 18), (j134 19), undef], []⟩) (by kernel_rfl) ?_
    refine wpList_nil ?_
    refine hK159 _ _ ?_
    refine wp_seq_k (fun K168 hK169 => ?_)
    refine wp_seq_k (fun K170 hK171 => ?_)
    refine wp_region_lit ?_
    have hq_ := bind_some h; clear h; obtain ⟨⟨vt172, vt173⟩, hc174, h⟩ := hq_
    refine seqL1 (by kernel_rfl) ?_
    refine seqK rfl (does_call (f := 25) (args := #[.pointer (some ⟨b1, 0, none⟩), .int .i64 5]) (by kernel_rfl) (spymake_Stream_Next.calls k b1 A4 c5 (⟨s3.L, vt162⟩ : S_Stream) 5 HS167 (HR6.mono (L131.trans L165)) vt172 vt173 hc174) ?_)
    rintro _ W177 ⟨f175, rfl, L176, HS178⟩
    refine ⟨_, rfl, ?_⟩
    refine seqS1 (a' := ⟨#[.pointer (some ⟨b1, 0, none⟩), .agg #[.int .i64 c7.W, .int .i64 c7.H, .slice A8 c7.Bias.length c9, .slice A11 c7.Dark.length c12, .slice A14 c7.Flat.length c15, .int .i64 c7.Full, .int .i64 c7.Gain, .int .i64 c7.Noise], undef, .pointer (some ⟨b19, 0, none⟩), .slice none 0 0, .slice A136 out135.length c137, .int .i64 vt161, .pointer (some ⟨b19, 0, none⟩), .int .i64 c7.W, .pointer (some ⟨b19, 1, none⟩), .int .i64 c7.H, .int .i64 (w64 (c7.W * c7.H)), .int .i64 x141, .bool true, .pointer (some ⟨b1, 0, none⟩), .pointer (some ⟨b19, 5, none⟩), .int .i64 c7.Full, .int .i64 (w64 (c7.Full + 1)), .int .i64 vt161, .pointer (some ⟨b1, 0, none⟩), .int .i64 vt172, .bool (vt172 == 0), (j134 10), (j134 11), (j134 12), (j134 13), (j134 14), (j134 15), (j134 16), (j134 17), (j134 18), (j134 19), undef], []⟩) (by kernel_rfl) ?_
    refine wpList_nil ?_
    refine hK171 _ _ ?_
    have hq_ := ite_some h; clear h; rcases hq_ with ⟨c180, h⟩ | ⟨c180, h⟩
    · have c180 : vt172 = 0 := c180
      refine wpRwI 21 (x := (vt172 == 0)) (v := true) (by kernel_rfl) (beq_iff_eq.mpr c180) ?_
      refine condT (by kernel_rfl) ?_
      refine wp_region_lit ?_
      refine seqL2 (by kernel_rfl) ?_
      refine seqK rfl (does_run (run_load rfl Try.underlying22 rfl (by kernel_rfl : _ = Value.pointer (some ⟨b19, 5, none⟩)) (HS178.u2.cell 5)) ?_)
      have hq_ := bind_some h; clear h; obtain ⟨⟨vt181, vt182⟩, hc183, h⟩ := hq_
      refine seqL1 (by kernel_rfl) ?_
      refine seqK rfl (does_call (f := 25) (args := #[.pointer (some ⟨b1, 0, none⟩), .int .i64 (w64 (4 * c7.Full))]) (by kernel_rfl) (spymake_Stream_Next.calls k b1 A4 c5 (⟨s3.L, vt173⟩ : S_Stream) (w64 (4 * c7.Full)) HS178 (HR6.mono (L131.trans (L165.trans L176))) vt181 vt182 hc183) ?_)
      rintro _ W186 ⟨f184, rfl, L185, HS187⟩
      refine ⟨_, rfl, ?_⟩
      refine seqS1 (a' := ⟨#[.pointer (some ⟨b1, 0, none⟩), .agg #[.int .i64 c7.W, .int .i64 c7.H, .slice A8 c7.Bias.length c9, .slice A11 c7.Dark.length c12, .slice A14 c7.Flat.length c15, .int .i64 c7.Full, .int .i64 c7.Gain, .int .i64 c7.Noise], undef, .pointer (some ⟨b19, 0, none⟩), .slice none 0 0, .slice A136 out135.length c137, .int .i64 vt181, .pointer (some ⟨b19, 0, none⟩), .int .i64 c7.W, .pointer (some ⟨b19, 1, none⟩), .int .i64 c7.H, .int .i64 (w64 (c7.W * c7.H)), .int .i64 x141, .bool true, .pointer (some ⟨b1, 0, none⟩), .pointer (some ⟨b19, 5, none⟩), .int .i64 c7.Full, .int .i64 (w64 (c7.Full + 1)), .int .i64 vt161, .pointer (some ⟨b1, 0, none⟩), .int .i64 vt172, .bool true, .pointer (some ⟨b1, 0, none⟩), .pointer (some ⟨b19, 5, none⟩), .int .i64 c7.Full, .int .i64 (w64 (4 * c7.Full)), .int .i64 vt181, (j134 15), (j134 16), (j134 17), (j134 18), (j134 19), undef], []⟩) (by kernel_rfl) ?_
      refine wpList_nil ?_
      refine hK169 _ _ ?_
      refine wp_region_lit ?_
      refine seqL2 (by kernel_rfl) ?_
      refine seqK rfl (does_lit (e := (tInt .i64)) (E := 22) (vs := #[(0, Value.int .i64 vt181)]) (cs := #[.int .i64 vt181]) (xs := ([vt181] : List Int)) rfl Try.underlying48 (by kernel_rfl) (by kernel_rfl) ⟨[.int .i64 vt181], _, rfl, rfl, rfl⟩ rfl HS187 ?_ (by decide))
      intro b188 W189 s190 HS191 _ HO192
      have hq_ := guard_some h; clear h; obtain ⟨c194, h⟩ := hq_
      have c194 : (out135.length + 1) * 8 ≤ 140737488355328 := c194
      have HS195 := HS191.u2
      have HS196 := HS195.u1
      refine seqK rfl (does_append1 (e := (tInt .i64)) (E := 22) (xs := out135) (ys := ([vt181] : List Int)) rfl (by kernel_rfl : _ = Value.slice A136 out135.length c137) (by kernel_rfl : _ = Value.slice (some ⟨b188, 0, none⟩) ([vt181] : List Int).length 1) Try.underlying48 inf22 (HO139.mono (L165.trans (L176.trans L185))) HO192 HS196 c194 (lim63 c194 (by decide)) ?_)
      intro A197 c198 s199 W200 HS201 HO202
      refine seqS1 (a' := ⟨#[.pointer (some ⟨b1, 0, none⟩), .agg #[.int .i64 c7.W, .int .i64 c7.H, .slice A8 c7.Bias.length c9, .slice A11 c7.Dark.length c12, .slice A14 c7.Flat.length c15, .int .i64 c7.Full, .int .i64 c7.Gain, .int .i64 c7.Noise], undef, .pointer (some ⟨b19, 0, none⟩), .slice none 0 0, .slice A197 (out135 ++ ([vt181] : List Int)).length c198, .int .i64 vt181, .pointer (some ⟨b19, 0, none⟩), .int .i64 c7.W, .pointer (some ⟨b19, 1, none⟩), .int .i64 c7.H, .int .i64 (w64 (c7.W * c7.H)), .int .i64 x141, .bool true, .pointer (some ⟨b1, 0, none⟩), .pointer (some ⟨b19, 5, none⟩), .int .i64 c7.Full, .int .i64 (w64 (c7.Full + 1)), .int .i64 vt161, .pointer (some ⟨b1, 0, none⟩), .int .i64 vt172, .bool true, .pointer (some ⟨b1, 0, none⟩), .pointer (some ⟨b19, 5, none⟩), .int .i64 c7.Full, .int .i64 (w64 (4 * c7.Full)), .int .i64 vt181, .slice A136 out135.length c137, .int .i64 vt181, .slice (some ⟨b188, 0, none⟩) ([vt181] : List Int).length 1, .slice A197 (out135 ++ ([vt181] : List Int)).length c198, (j134 19), undef], []⟩) (by kernel_rfl) ?_
      refine wpList_nil ?_
      refine hn153 _ _ ?_
      refine hK150 _ _ ?_
      refine wp_region_lit ?_
      refine seqS2 (a' := ⟨#[.pointer (some ⟨b1, 0, none⟩), .agg #[.int .i64 c7.W, .int .i64 c7.H, .slice A8 c7.Bias.length c9, .slice A11 c7.Dark.length c12, .slice A14 c7.Flat.length c15, .int .i64 c7.Full, .int .i64 c7.Gain, .int .i64 c7.Noise], undef, .pointer (some ⟨b19, 0, none⟩), .slice none 0 0, .slice A197 (out135 ++ ([vt181] : List Int)).length c198, .int .i64 vt181, .pointer (some ⟨b19, 0, none⟩), .int .i64 c7.W, .pointer (some ⟨b19, 1, none⟩), .int .i64 c7.H, .int .i64 (w64 (c7.W * c7.H)), .int .i64 (w64 (x141 + 1)), .bool true, .pointer (some ⟨b1, 0, none⟩), .pointer (some ⟨b19, 5, none⟩), .int .i64 c7.Full, .int .i64 (w64 (c7.Full + 1)), .int .i64 vt161, .pointer (some ⟨b1, 0, none⟩), .int .i64 vt172, .bool true, .pointer (some ⟨b1, 0, none⟩), .pointer (some ⟨b19, 5, none⟩), .int .i64 c7.Full, .int .i64 (w64 (4 * c7.Full)), .int .i64 vt181, .slice A136 out135.length c137, .int .i64 vt181, .slice (some ⟨b188, 0, none⟩) ([vt181] : List Int).length 1, .slice A197 (out135 ++ ([vt181] : List Int)).length c198, .int .i64 (w64 (x141 + 1)), undef], []⟩) (by kernel_rfl) ?_
      refine wpList_nil ?_
      refine hK128 n129 _ _ (Nat.lt_succ_self _) ?_
      have HS235 := HS201.u1
      have HS236 := HS235.u2
      have HS237 := HS236.u2
      exact ⟨f184, A197, c198, s199, (out135 ++ ([vt181] : List Int)), (w64 (x141 + 1)), vt182, (fun i_ => [Value.int .i64 vt181, Value.bool true, Value.pointer (some ⟨b1, 0, none⟩), Value.pointer (some ⟨b19, 5, none⟩), Value.int .i64 c7.Full, Value.int .i64 (w64 (c7.Full + 1)), Value.int .i64 vt161, Value.pointer (some ⟨b1, 0, none⟩), Value.int .i64 vt172, Value.bool true, Value.pointer (some ⟨b1, 0, none⟩), Value.pointer (some ⟨b19, 5, none⟩), Value.int .i64 c7.Full, Value.int .i64 (w64 (4 * c7.Full)), Value.int .i64 vt181, Value.slice A136 out135.length c137, Value.int .i64 vt181, Value.slice (some ⟨b188, 0, none⟩) ([vt181] : List Int).length 1, Value.slice A197 (out135 ++ ([vt181] : List Int)).length c198, Value.int .i64 (w64 (x141 + 1))].getD i_ undef), (L131.trans (L165.trans (L176.trans L185))), HS237, HO202, h, (by kernel_rfl)⟩
    · have c180 : ¬ (vt172 = 0) := c180
      refine wpRwI 21 (x := (vt172 == 0)) (v := false) (by kernel_rfl) (beq_eq_false_iff_ne.mpr c180) ?_
      refine condF (by kernel_rfl) ?_
      refine wp_skip ?_
      refine hK169 _ _ ?_
      refine wp_region_lit ?_
      refine seqL2 (by kernel_rfl) ?_
      refine seqK rfl (does_lit (e := (tInt .i64)) (E := 22) (vs := #[(0, Value.int .i64 vt161)]) (cs := #[.int .i64 vt161]) (xs := ([vt161] : List Int)) rfl Try.underlying48 (by kernel_rfl) (by kernel_rfl) ⟨[.int .i64 vt161], _, rfl, rfl, rfl⟩ rfl HS178 ?_ (by decide))
      intro b203 W204 s205 HS206 _ HO207
      have hq_ := guard_some h; clear h; obtain ⟨c209, h⟩ := hq_
      have c209 : (out135.length + 1) * 8 ≤ 140737488355328 := c209
      have HS210 := HS206.u2
      have HS211 := HS210.u1
      refine seqK rfl (does_append1 (e := (tInt .i64)) (E := 22) (xs := out135) (ys := ([vt161] : List Int)) rfl (by kernel_rfl : _ = Value.slice A136 out135.length c137) (by kernel_rfl : _ = Value.slice (some ⟨b203, 0, none⟩) ([vt161] : List Int).length 1) Try.underlying48 inf22 (HO139.mono (L165.trans L176)) HO207 HS211 c209 (lim63 c209 (by decide)) ?_)
      intro A212 c213 s214 W215 HS216 HO217
      refine seqS1 (a' := ⟨#[.pointer (some ⟨b1, 0, none⟩), .agg #[.int .i64 c7.W, .int .i64 c7.H, .slice A8 c7.Bias.length c9, .slice A11 c7.Dark.length c12, .slice A14 c7.Flat.length c15, .int .i64 c7.Full, .int .i64 c7.Gain, .int .i64 c7.Noise], undef, .pointer (some ⟨b19, 0, none⟩), .slice none 0 0, .slice A212 (out135 ++ ([vt161] : List Int)).length c213, .int .i64 vt161, .pointer (some ⟨b19, 0, none⟩), .int .i64 c7.W, .pointer (some ⟨b19, 1, none⟩), .int .i64 c7.H, .int .i64 (w64 (c7.W * c7.H)), .int .i64 x141, .bool true, .pointer (some ⟨b1, 0, none⟩), .pointer (some ⟨b19, 5, none⟩), .int .i64 c7.Full, .int .i64 (w64 (c7.Full + 1)), .int .i64 vt161, .pointer (some ⟨b1, 0, none⟩), .int .i64 vt172, .bool false, (j134 10), (j134 11), (j134 12), (j134 13), (j134 14), .slice A136 out135.length c137, .int .i64 vt161, .slice (some ⟨b203, 0, none⟩) ([vt161] : List Int).length 1, .slice A212 (out135 ++ ([vt161] : List Int)).length c213, (j134 19), undef], []⟩) (by kernel_rfl) ?_
      refine wpList_nil ?_
      refine hn153 _ _ ?_
      refine hK150 _ _ ?_
      refine wp_region_lit ?_
      refine seqS2 (a' := ⟨#[.pointer (some ⟨b1, 0, none⟩), .agg #[.int .i64 c7.W, .int .i64 c7.H, .slice A8 c7.Bias.length c9, .slice A11 c7.Dark.length c12, .slice A14 c7.Flat.length c15, .int .i64 c7.Full, .int .i64 c7.Gain, .int .i64 c7.Noise], undef, .pointer (some ⟨b19, 0, none⟩), .slice none 0 0, .slice A212 (out135 ++ ([vt161] : List Int)).length c213, .int .i64 vt161, .pointer (some ⟨b19, 0, none⟩), .int .i64 c7.W, .pointer (some ⟨b19, 1, none⟩), .int .i64 c7.H, .int .i64 (w64 (c7.W * c7.H)), .int .i64 (w64 (x141 + 1)), .bool true, .pointer (some ⟨b1, 0, none⟩), .pointer (some ⟨b19, 5, none⟩), .int .i64 c7.Full, .int .i64 (w64 (c7.Full + 1)), .int .i64 vt161, .pointer (some ⟨b1, 0, none⟩), .int .i64 vt172, .bool false, (j134 10), (j134 11), (j134 12), (j134 13), (j134 14), .slice A136 out135.length c137, .int .i64 vt161, .slice (some ⟨b203, 0, none⟩) ([vt161] : List Int).length 1, .slice A212 (out135 ++ ([vt161] : List Int)).length c213, .int .i64 (w64 (x141 + 1)), undef], []⟩) (by kernel_rfl) ?_
      refine wpList_nil ?_
      refine hK128 n129 _ _ (Nat.lt_succ_self _) ?_
      have HS238 := HS216.u1
      have HS239 := HS238.u2
      have HS240 := HS239.u2
      exact ⟨f175, A212, c213, s214, (out135 ++ ([vt161] : List Int)), (w64 (x141 + 1)), vt173, (fun i_ => [Value.int .i64 vt161, Value.bool true, Value.pointer (some ⟨b1, 0, none⟩), Value.pointer (some ⟨b19, 5, none⟩), Value.int .i64 c7.Full, Value.int .i64 (w64 (c7.Full + 1)), Value.int .i64 vt161, Value.pointer (some ⟨b1, 0, none⟩), Value.int .i64 vt172, Value.bool false, (j134 10), (j134 11), (j134 12), (j134 13), (j134 14), Value.slice A136 out135.length c137, Value.int .i64 vt161, Value.slice (some ⟨b203, 0, none⟩) ([vt161] : List Int).length 1, Value.slice A212 (out135 ++ ([vt161] : List Int)).length c213, Value.int .i64 (w64 (x141 + 1))].getD i_ undef), (L131.trans (L165.trans L176)), HS240, HO217, h, (by kernel_rfl)⟩
  · have c148 : ¬ (x141 < (w64 (c7.W * c7.H))) := c148
    refine wpRwI 13 (x := (decide (x141 < (w64 (c7.W * c7.H))))) (v := false) (by kernel_rfl) (decide_eq_false c148) ?_
    refine condF (by kernel_rfl) ?_
    refine wp_exit ?_
    refine hx30 _ _ ?_
    exact J231 f130 A136 c137 s138 out135 x142 (fun i_ => [(j134 0), Value.int .i64 x141, Value.bool false, (j134 2), (j134 3), (j134 4), (j134 5), (j134 6), (j134 7), (j134 8), (j134 9), (j134 10), (j134 11), (j134 12), (j134 13), (j134 14), (j134 15), (j134 16), (j134 17), (j134 18), (j134 19)].getD i_ undef) W132 _ L131 h HS133 HO139 (by kernel_rfl)

set_option maxRecDepth 100000 in
set_option maxHeartbeats 4000000 in
theorem sensor_outside_int_1.calls (k : Nat) (b1 : Nat) (v3 : Int) (x4 : Int) {t w : World} {f : FM} {H : List Seg} (HS : St t w f ([(b1, .cells #[.int .i64 v3] 3 (0, 0))] :: H)) (r1 : Bool) (h : sensor_outside_int_1 k v3 x4 = some r1) :
    Calls Try.prog 91 #[.int .i64 x4, .pointer (some ⟨b1, 0, none⟩)] w (fun e w' => ∃ (g : FM), e = .returned (Value.bool r1) ∧ FM.le f g ∧ St t w' g ([(b1, .cells #[.int .i64 v3] 3 (0, 0))] :: H)) := by
  unfold sensor_outside_int_1 at h
  refine enter Try.func91 rfl (tm := #[.int .i64 x4, .pointer (some ⟨b1, 0, none⟩), undef, undef, undef, undef, undef, undef, undef, undef, undef]) (by kernel_rfl) ?_
  intro B hret hnor hnp
  refine wp_seq_k (fun K5 hK6 => ?_)
  refine wp_region_lit ?_
  refine seqS1 (a' := ⟨#[.int .i64 x4, .pointer (some ⟨b1, 0, none⟩), undef, .bool false, undef, undef, undef, undef, undef, undef, undef], []⟩) (by kernel_rfl) ?_
  refine wpList_nil ?_
  refine hK6 _ _ ?_
  refine wp_seq_k (fun K7 hK8 => ?_)
  refine wp_region_lit ?_
  refine seqS3 (a' := ⟨#[.int .i64 x4, .pointer (some ⟨b1, 0, none⟩), undef, .bool false, .int .i64 x4, .bool (decide (x4 < 0)), .bool (decide (x4 < 0)), undef, undef, undef, undef], []⟩) (by kernel_rfl) ?_
  have hq_ := ite_some h; clear h; rcases hq_ with ⟨c9, h⟩ | ⟨c9, h⟩
  · have c9 : x4 < 0 := c9
    refine seqRwI 5 (x := (decide (x4 < 0))) (v := true) (by kernel_rfl) (decide_eq_true c9) ?_
    refine seqRwI 6 (x := (decide (x4 < 0))) (v := true) (by kernel_rfl) (decide_eq_true c9) ?_
    refine seqS5 (a' := ⟨#[.int .i64 x4, .pointer (some ⟨b1, 0, none⟩), undef, .bool true, .int .i64 x4, .bool true, .bool true, undef, undef, undef, .bool true], []⟩) (by kernel_rfl) ?_
    refine wpList_nil ?_
    refine hK8 _ _ ?_
    refine wp_ret ?_
    refine hret _ _ ?_
    refine ends_still (v := Value.bool true) (by kernel_rfl) (by kernel_rfl) ?_
    injection h with h
    subst h
    exact ⟨f, rfl, FM.le.refl _, HS⟩
  · have c9 : ¬ (x4 < 0) := c9
    refine seqRwI 5 (x := (decide (x4 < 0))) (v := false) (by kernel_rfl) (decide_eq_false c9) ?_
    refine seqRwI 6 (x := (decide (x4 < 0))) (v := false) (by kernel_rfl) (decide_eq_false c9) ?_
    refine seqL1 (by kernel_rfl) ?_
    refine seqG (by kernel_rfl) (does_run (run_load rfl Try.underlying3 rfl (by kernel_rfl : _ = Value.pointer (some ⟨b1, 0, none⟩)) (HS.cell 0)) ?_)
    refine seqS3 (a' := ⟨#[.int .i64 x4, .pointer (some ⟨b1, 0, none⟩), undef, .bool (decide (x4 > v3)), .int .i64 x4, .bool false, .bool false, .int .i64 x4, .int .i64 v3, .bool (decide (x4 > v3)), .bool (decide (x4 > v3))], []⟩) (by kernel_rfl) ?_
    refine wpList_nil ?_
    refine hK8 _ _ ?_
    refine wp_ret ?_
    refine hret _ _ ?_
    refine ends_still (v := Value.bool (decide (x4 > v3))) (by kernel_rfl) (by kernel_rfl) ?_
    injection h with h
    subst h
    exact ⟨f, rfl, FM.le.refl _, HS⟩

set_option maxRecDepth 100000 in
set_option maxHeartbeats 4000000 in
theorem slices_IndexFunc_int__sensor_outside_int_1.calls (k : Nat) (b1 : Nat) (A5 : Option Addr) (c6 : Nat) (v3 : Int) (s4 : List Int) {t w : World} {f : FM} {H : List Seg} (HS : St t w f ([(b1, .cells #[.int .i64 v3] 3 (0, 0))] :: H)) (HR7 : SlR (tInt .i64) f A5 c6 s4) (r1 : Int) (h : slices_IndexFunc_int__sensor_outside_int_1 k v3 s4 = some r1) :
    Calls Try.prog 95 #[.slice A5 s4.length c6, .func (.func 91) #[] #[.pointer (some ⟨b1, 0, none⟩)]] w (fun e w' => ∃ (g : FM), e = .returned (Value.int .i64 r1) ∧ FM.le f g ∧ St t w' g ([(b1, .cells #[.int .i64 v3] 3 (0, 0))] :: H)) := by
  unfold slices_IndexFunc_int__sensor_outside_int_1 at h
  refine enter Try.func95 rfl (tm := #[.slice A5 s4.length c6, .func (.func 91) #[] #[.pointer (some ⟨b1, 0, none⟩)], undef, undef, undef, undef, undef, undef, undef, undef, undef, undef, undef, undef, undef, undef, undef, undef, undef]) (by kernel_rfl) ?_
  intro B hret hnor hnp
  refine wp_seq_k (fun K8 hK9 => ?_)
  refine wp_region_lit ?_
  refine seqS1 (a' := ⟨#[.slice A5 s4.length c6, .func (.func 91) #[] #[.pointer (some ⟨b1, 0, none⟩)], undef, undef, .int .i64 0, undef, undef, undef, undef, undef, undef, undef, undef, undef, undef, undef, undef, undef, undef], []⟩) (by kernel_rfl) ?_
  refine wpList_nil ?_
  refine hK9 _ _ ?_
  refine wp_seq_k (fun K10 hK11 => ?_)
  refine wp_seq_k (fun K12 hK13 => ?_)
  refine wp_region_lit ?_
  refine seqS3 (a' := ⟨#[.slice A5 s4.length c6, .func (.func 91) #[] #[.pointer (some ⟨b1, 0, none⟩)], undef, undef, .int .i64 0, undef, .slice A5 s4.length c6, .int .i64 (s4.length : Int), .int .i64 0, undef, undef, undef, undef, undef, undef, undef, undef, undef, undef], []⟩) (by kernel_rfl) ?_
  refine wpList_nil ?_
  refine hK13 _ _ ?_
  refine blockK (fun B14 hx15 hn16 hr17 ho18 hp19 => ?_)
  have hq_ := bind_some h; clear h; obtain ⟨o20, hv70, h⟩ := hq_
  have JR72 : ∀ z_, some (Sum.inl z_) = some o20 → some z_ = some r1 := by
    intro z_ e_; injection e_ with e_; subst e_; exact h
  have J71 : ∀ (f65 : FM) (j69 : Nat → Value) (W67 : World) (a_ : Act), FM.le f f65 → some (Sum.inr ()) = some o20 → St t W67 f65 ([(b1, .cells #[.int .i64 v3] 3 (0, 0))] :: H) → a_ = ⟨#[.slice A5 s4.length c6, .func (.func 91) #[] #[.pointer (some ⟨b1, 0, none⟩)], undef, undef, (j69 0), (j69 1), .slice A5 s4.length c6, .int .i64 (s4.length : Int), (j69 2), (j69 3), (j69 4), (j69 5), (j69 6), (j69 7), (j69 8), (j69 9), (j69 10), (j69 11), (j69 12)], []⟩ → K10 a_ W67 := by
    intro f65 j69 W67 a_ L66 hj73 HS68  hfr_; subst hfr_
    injection hj73 with hj73; subst hj73; try dsimp only at h
    simp only [Sum.elim_inr] at h
    refine hK11 _ _ ?_
    refine wp_seq_k (fun K74 hK75 => ?_)
    refine wp_region_lit ?_
    refine seqS1 (a' := ⟨#[.slice A5 s4.length c6, .func (.func 91) #[] #[.pointer (some ⟨b1, 0, none⟩)], undef, undef, .int .i64 (-1), (j69 1), .slice A5 s4.length c6, .int .i64 (s4.length : Int), (j69 2), (j69 3), (j69 4), (j69 5), (j69 6), (j69 7), (j69 8), (j69 9), (j69 10), (j69 11), (j69 12)], []⟩) (by kernel_rfl) ?_
    refine wpList_nil ?_
    refine hK75 _ _ ?_
    refine wp_ret ?_
    refine hret _ _ ?_
    refine ends_still (v := Value.int .i64 (-1)) (by kernel_rfl) (by kernel_rfl) ?_
    injection h with h
    subst h
    exact ⟨f65, rfl, L66, HS68⟩
  clear h; have h := hv70; clear hv70
  refine loopK (fun n_ a_ w_ => ∃ (f24 : FM) (x29 : Int) (j28 : Nat → Value), FM.le f f24 ∧ St t w_ f24 ([(b1, .cells #[.int .i64 v3] 3 (0, 0))] :: H) ∧ slices_IndexFunc_int__sensor_outside_int_1.l0 k s4 v3 n_ x29 = some o20 ∧ a_ = ⟨#[.slice A5 s4.length c6, .func (.func 91) #[] #[.pointer (some ⟨b1, 0, none⟩)], undef, undef, (j28 0), (j28 1), .slice A5 s4.length c6, .int .i64 (s4.length : Int), .int .i64 x29, (j28 2), (j28 3), (j28 4), (j28 5), (j28 6), (j28 7), (j28 8), (j28 9), (j28 10), (j28 11)], []⟩) k ⟨f, 0, (fun i_ => [Value.int .i64 0, undef, undef, undef, undef, undef, undef, undef, undef, undef, undef, undef].getD i_ undef), (FM.le.refl _), HS, h, (by kernel_rfl)⟩ ?_
  clear h
  rintro n23 _ W26 ⟨f24, x29, j28, L25, HS27, h, rfl⟩ K21 hK22
  obtain _ | n23 := n23
  · exact nomatch h
  simp only [slices_IndexFunc_int__sensor_outside_int_1.l0] at h
  refine wp_seq_k (fun K30 hK31 => ?_)
  refine wp_region_lit ?_
  refine seqS1 (a' := ⟨#[.slice A5 s4.length c6, .func (.func 91) #[] #[.pointer (some ⟨b1, 0, none⟩)], undef, undef, (j28 0), (j28 1), .slice A5 s4.length c6, .int .i64 (s4.length : Int), .int .i64 x29, .bool (decide (x29 < (s4.length : Int))), (j28 3), (j28 4), (j28 5), (j28 6), (j28 7), (j28 8), (j28 9), (j28 10), (j28 11)], []⟩) (by kernel_rfl) ?_
  refine wpList_nil ?_
  refine hK31 _ _ ?_
  refine wp_seq_k (fun K32 hK33 => ?_)
  have hq_ := ite_some h; clear h; rcases hq_ with ⟨c35, h⟩ | ⟨c35, h⟩
  · have c35 : x29 < (s4.length : Int) := c35
    refine wpRwI 9 (x := (decide (x29 < (s4.length : Int)))) (v := true) (by kernel_rfl) (decide_eq_true c35) ?_
    refine condT (by kernel_rfl) ?_
    refine wp_skip ?_
    refine hK33 _ _ ?_
    refine wp_seq_k (fun K36 hK37 => ?_)
    refine blockK (fun B38 hx39 hn40 hr41 ho42 hp43 => ?_)
    refine wp_seq_k (fun K45 hK46 => ?_)
    refine wp_region_lit ?_
    refine seqS2 (a' := ⟨#[.slice A5 s4.length c6, .func (.func 91) #[] #[.pointer (some ⟨b1, 0, none⟩)], undef, undef, (j28 0), .int .i64 x29, .slice A5 s4.length c6, .int .i64 (s4.length : Int), .int .i64 x29, .bool true, .int .i64 x29, (j28 4), (j28 5), (j28 6), (j28 7), (j28 8), (j28 9), (j28 10), (j28 11)], []⟩) (by kernel_rfl) ?_
    refine wpList_nil ?_
    refine hK46 _ _ ?_
    refine wp_seq_k (fun K47 hK48 => ?_)
    refine wp_region_lit ?_
    have hq_ := guard_some h; clear h; obtain ⟨c49, h⟩ := hq_
    have c49 : 0 ≤ x29 := c49
    obtain ⟨b53, of54, cs50, rfl, hr51, hc52⟩ := (HR7.mono L25).at (i := x29) c49 c35
    obtain rfl := hr51
    refine seqL3 (by kernel_rfl) ?_
    refine seqK rfl (does_run (run_index (sz := 1) rfl Try.underlying40 (by kernel_rfl) (by kernel_rfl : _ = Value.slice (some ⟨b53, of54, none⟩) s4.length c6) (by kernel_rfl : _ = Value.int .i64 x29) c49 c35 W26) ?_)
    refine seqK rfl (does_run (run_load rfl Try.underlying3 rfl (by kernel_rfl : _ = Value.pointer (some ⟨b53, of54 + (x29 : Int).toNat * 1, none⟩)) ((hc52 (FM.le.refl _) HS27) 0 (by decide))) ?_)
    have hq_ := bind_some h; clear h; obtain ⟨vt55, hc56, h⟩ := hq_
    refine seqK rfl (does_call (f := 91) (args := #[.int .i64 (rd s4 x29), .pointer (some ⟨b1, 0, none⟩)]) (by kernel_rfl) (sensor_outside_int_1.calls k b1 v3 (rd s4 x29) HS27 vt55 hc56) ?_)
    rintro _ W59 ⟨f57, rfl, L58, HS60⟩
    refine ⟨_, rfl, ?_⟩
    refine wpList_nil ?_
    refine hK48 _ _ ?_
    have hq_ := ite_some h; clear h; rcases hq_ with ⟨c62, h⟩ | ⟨c62, h⟩
    · have c62 : vt55 = true := c62
      refine wpRwI 16 (x := vt55) (v := true) (by kernel_rfl) c62 ?_
      refine condT (by kernel_rfl) ?_
      refine wp_seq_k (fun K63 hK64 => ?_)
      refine wp_region_lit ?_
      refine seqS2 (a' := ⟨#[.slice (some ⟨b53, of54, none⟩) s4.length c6, .func (.func 91) #[] #[.pointer (some ⟨b1, 0, none⟩)], undef, undef, .int .i64 x29, .int .i64 x29, .slice (some ⟨b53, of54, none⟩) s4.length c6, .int .i64 (s4.length : Int), .int .i64 x29, .bool true, .int .i64 x29, .func (.func 91) #[] #[.pointer (some ⟨b1, 0, none⟩)], .slice (some ⟨b53, of54, none⟩) s4.length c6, .int .i64 x29, .pointer (some ⟨b53, of54 + (x29 : Int).toNat * 1, none⟩), .int .i64 (rd s4 x29), .bool true, .int .i64 x29, (j28 11)], []⟩) (by kernel_rfl) ?_
      refine wpList_nil ?_
      refine hK64 _ _ ?_
      refine wp_ret ?_
      refine hr41 _ _ ?_
      refine hr17 _ _ ?_
      refine hret _ _ ?_
      refine ends_still (v := Value.int .i64 x29) (by kernel_rfl) (by kernel_rfl) ?_
      replace h := JR72 _ h
      injection h with h
      subst h
      exact ⟨f57, rfl, (L25.trans L58), HS60⟩
    · have c62 : ¬ (vt55 = true) := c62
      refine wpRwI 16 (x := vt55) (v := false) (by kernel_rfl) (Bool.eq_false_iff.mpr c62) ?_
      refine condF (by kernel_rfl) ?_
      refine wp_skip ?_
      refine hn40 _ _ ?_
      refine hK37 _ _ ?_
      refine wp_region_lit ?_
      refine seqS2 (a' := ⟨#[.slice (some ⟨b53, of54, none⟩) s4.length c6, .func (.func 91) #[] #[.pointer (some ⟨b1, 0, none⟩)], undef, undef, (j28 0), .int .i64 x29, .slice (some ⟨b53, of54, none⟩) s4.length c6, .int .i64 (s4.length : Int), .int .i64 (w64 (x29 + 1)), .bool true, .int .i64 x29, .func (.func 91) #[] #[.pointer (some ⟨b1, 0, none⟩)], .slice (some ⟨b53, of54, none⟩) s4.length c6, .int .i64 x29, .pointer (some ⟨b53, of54 + (x29 : Int).toNat * 1, none⟩), .int .i64 (rd s4 x29), .bool false, (j28 10), .int .i64 (w64 (x29 + 1))], []⟩) (by kernel_rfl) ?_
      refine wpList_nil ?_
      refine hK22 n23 _ _ (Nat.lt_succ_self _) ?_
      exact ⟨f57, (w64 (x29 + 1)), (fun i_ => [(j28 0), Value.int .i64 x29, Value.bool true, Value.int .i64 x29, Value.func (.func 91) #[] #[.pointer (some ⟨b1, 0, none⟩)], Value.slice (some ⟨b53, of54, none⟩) s4.length c6, Value.int .i64 x29, Value.pointer (some ⟨b53, of54 + (x29 : Int).toNat * 1, none⟩), Value.int .i64 (rd s4 x29), Value.bool false, (j28 10), Value.int .i64 (w64 (x29 + 1))].getD i_ undef), (L25.trans L58), HS60, h, (by kernel_rfl)⟩
  · have c35 : ¬ (x29 < (s4.length : Int)) := c35
    refine wpRwI 9 (x := (decide (x29 < (s4.length : Int)))) (v := false) (by kernel_rfl) (decide_eq_false c35) ?_
    refine condF (by kernel_rfl) ?_
    refine wp_exit ?_
    refine hx15 _ _ ?_
    exact J71 f24 (fun i_ => [(j28 0), (j28 1), Value.int .i64 x29, Value.bool false, (j28 3), (j28 4), (j28 5), (j28 6), (j28 7), (j28 8), (j28 9), (j28 10), (j28 11)].getD i_ undef) W26 _ L25 h HS27 (by kernel_rfl)

set_option maxRecDepth 100000 in
set_option maxHeartbeats 4000000 in
theorem slices_ContainsFunc_int__sensor_outside_int_1.calls (k : Nat) (b1 : Nat) (A5 : Option Addr) (c6 : Nat) (v3 : Int) (s4 : List Int) {t w : World} {f : FM} {H : List Seg} (HS : St t w f ([(b1, .cells #[.int .i64 v3] 3 (0, 0))] :: H)) (HR7 : SlR (tInt .i64) f A5 c6 s4) (r1 : Bool) (h : slices_ContainsFunc_int__sensor_outside_int_1 k v3 s4 = some r1) :
    Calls Try.prog 90 #[.slice A5 s4.length c6, .func (.func 91) #[] #[.pointer (some ⟨b1, 0, none⟩)]] w (fun e w' => ∃ (g : FM), e = .returned (Value.bool r1) ∧ FM.le f g ∧ St t w' g ([(b1, .cells #[.int .i64 v3] 3 (0, 0))] :: H)) := by
  unfold slices_ContainsFunc_int__sensor_outside_int_1 at h
  refine enter Try.func90 rfl (tm := #[.slice A5 s4.length c6, .func (.func 91) #[] #[.pointer (some ⟨b1, 0, none⟩)], undef, undef, undef, undef, undef, undef, undef]) (by kernel_rfl) ?_
  intro B hret hnor hnp
  refine wp_seq_k (fun K8 hK9 => ?_)
  refine wp_region_lit ?_
  refine seqS1 (a' := ⟨#[.slice A5 s4.length c6, .func (.func 91) #[] #[.pointer (some ⟨b1, 0, none⟩)], undef, undef, .bool false, undef, undef, undef, undef], []⟩) (by kernel_rfl) ?_
  refine wpList_nil ?_
  refine hK9 _ _ ?_
  refine wp_seq_k (fun K10 hK11 => ?_)
  refine wp_region_lit ?_
  have hq_ := bind_some h; clear h; obtain ⟨vt12, hc13, h⟩ := hq_
  refine seqL2 (by kernel_rfl) ?_
  refine seqK rfl (does_call (f := 95) (args := #[.slice A5 s4.length c6, .func (.func 91) #[] #[.pointer (some ⟨b1, 0, none⟩)]]) (by kernel_rfl) (slices_IndexFunc_int__sensor_outside_int_1.calls k b1 A5 c6 v3 s4 HS HR7 vt12 hc13) ?_)
  rintro _ W16 ⟨f14, rfl, L15, HS17⟩
  refine ⟨_, rfl, ?_⟩
  refine seqS2 (a' := ⟨#[.slice A5 s4.length c6, .func (.func 91) #[] #[.pointer (some ⟨b1, 0, none⟩)], undef, undef, .bool (decide (vt12 ≥ 0)), .slice A5 s4.length c6, .func (.func 91) #[] #[.pointer (some ⟨b1, 0, none⟩)], .int .i64 vt12, .bool (decide (vt12 ≥ 0))], []⟩) (by kernel_rfl) ?_
  refine wpList_nil ?_
  refine hK11 _ _ ?_
  refine wp_ret ?_
  refine hret _ _ ?_
  refine ends_still (v := Value.bool (decide (vt12 ≥ 0))) (by kernel_rfl) (by kernel_rfl) ?_
  injection h with h
  subst h
  exact ⟨f14, rfl, L15, HS17⟩

set_option maxRecDepth 100000 in
set_option maxHeartbeats 4000000 in
theorem sensor_outside_int.calls (k : Nat) (A2 : Option Addr) (c3 : Nat) (l1 : List Int) (most5 : Int) {t w : World} {f : FM} {H : List Seg} (HS : St t w f (H)) (HR4 : SlR (tInt .i64) f A2 c3 l1) (r1 : Bool) (h : sensor_outside_int k l1 most5 = some r1) :
    Calls Try.prog 78 #[.slice A2 l1.length c3, .int .i64 most5] w (fun e w' => ∃ (g : FM), e = .returned (Value.bool r1) ∧ FM.le f g ∧ St t w' g (H)) := by
  unfold sensor_outside_int at h
  refine enter Try.func78 rfl (tm := #[.slice A2 l1.length c3, .int .i64 most5, undef, undef, undef, undef, undef, undef]) (by kernel_rfl) ?_
  intro B hret hnor hnp
  refine wp_seq_k (fun K6 hK7 => ?_)
  refine wp_region_lit ?_
  refine seqK rfl (does_box (cs := #[.int .i64 most5]) rfl (by kernel_rfl : _ = Value.int .i64 most5) rfl HS ?_)
  intro b8 W9 HS10
  refine seqS1 (a' := ⟨#[.slice A2 l1.length c3, .int .i64 most5, undef, .pointer (some ⟨b8, 0, none⟩), .bool false, undef, undef, undef], []⟩) (by kernel_rfl) ?_
  refine wpList_nil ?_
  refine hK7 _ _ ?_
  refine wp_seq_k (fun K12 hK13 => ?_)
  refine wp_region_lit ?_
  have hq_ := bind_some h; clear h; obtain ⟨vt14, hc15, h⟩ := hq_
  refine seqL2 (by kernel_rfl) ?_
  refine seqK rfl (does_call (f := 90) (args := #[.slice A2 l1.length c3, .func (.func 91) #[] #[.pointer (some ⟨b8, 0, none⟩)]]) (by kernel_rfl) (slices_ContainsFunc_int__sensor_outside_int_1.calls k b8 A2 c3 most5 l1 HS10 HR4 vt14 hc15) ?_)
  rintro _ W18 ⟨f16, rfl, L17, HS19⟩
  refine ⟨_, rfl, ?_⟩
  refine seqS1 (a' := ⟨#[.slice A2 l1.length c3, .int .i64 most5, undef, .pointer (some ⟨b8, 0, none⟩), .bool vt14, .slice A2 l1.length c3, .func (.func 91) #[] #[.pointer (some ⟨b8, 0, none⟩)], .bool vt14], []⟩) (by kernel_rfl) ?_
  refine wpList_nil ?_
  refine hK13 _ _ ?_
  refine wp_ret ?_
  refine hret _ _ ?_
  refine ends_still (v := Value.bool vt14) (by kernel_rfl) (by kernel_rfl) ?_
  have HS20 := HS19.drop
  injection h with h
  subst h
  exact ⟨f16, rfl, L17, HS20⟩

set_option maxRecDepth 100000 in
set_option maxHeartbeats 4000000 in
theorem sensor_outside_Light_1.calls (k : Nat) (b1 : Nat) (v3 : Int) (x4 : Int) {t w : World} {f : FM} {H : List Seg} (HS : St t w f ([(b1, .cells #[.int .i64 v3] 25 (0, 0))] :: H)) (r1 : Bool) (h : sensor_outside_Light_1 k v3 x4 = some r1) :
    Calls Try.prog 63 #[.int .i64 x4, .pointer (some ⟨b1, 0, none⟩)] w (fun e w' => ∃ (g : FM), e = .returned (Value.bool r1) ∧ FM.le f g ∧ St t w' g ([(b1, .cells #[.int .i64 v3] 25 (0, 0))] :: H)) := by
  unfold sensor_outside_Light_1 at h
  refine enter Try.func63 rfl (tm := #[.int .i64 x4, .pointer (some ⟨b1, 0, none⟩), undef, undef, undef, undef, undef, undef, undef, undef, undef]) (by kernel_rfl) ?_
  intro B hret hnor hnp
  refine wp_seq_k (fun K5 hK6 => ?_)
  refine wp_region_lit ?_
  refine seqS1 (a' := ⟨#[.int .i64 x4, .pointer (some ⟨b1, 0, none⟩), undef, .bool false, undef, undef, undef, undef, undef, undef, undef], []⟩) (by kernel_rfl) ?_
  refine wpList_nil ?_
  refine hK6 _ _ ?_
  refine wp_seq_k (fun K7 hK8 => ?_)
  refine wp_region_lit ?_
  refine seqS3 (a' := ⟨#[.int .i64 x4, .pointer (some ⟨b1, 0, none⟩), undef, .bool false, .int .i64 x4, .bool (decide (x4 < 0)), .bool (decide (x4 < 0)), undef, undef, undef, undef], []⟩) (by kernel_rfl) ?_
  have hq_ := ite_some h; clear h; rcases hq_ with ⟨c9, h⟩ | ⟨c9, h⟩
  · have c9 : x4 < 0 := c9
    refine seqRwI 5 (x := (decide (x4 < 0))) (v := true) (by kernel_rfl) (decide_eq_true c9) ?_
    refine seqRwI 6 (x := (decide (x4 < 0))) (v := true) (by kernel_rfl) (decide_eq_true c9) ?_
    refine seqS5 (a' := ⟨#[.int .i64 x4, .pointer (some ⟨b1, 0, none⟩), undef, .bool true, .int .i64 x4, .bool true, .bool true, undef, undef, undef, .bool true], []⟩) (by kernel_rfl) ?_
    refine wpList_nil ?_
    refine hK8 _ _ ?_
    refine wp_ret ?_
    refine hret _ _ ?_
    refine ends_still (v := Value.bool true) (by kernel_rfl) (by kernel_rfl) ?_
    injection h with h
    subst h
    exact ⟨f, rfl, FM.le.refl _, HS⟩
  · have c9 : ¬ (x4 < 0) := c9
    refine seqRwI 5 (x := (decide (x4 < 0))) (v := false) (by kernel_rfl) (decide_eq_false c9) ?_
    refine seqRwI 6 (x := (decide (x4 < 0))) (v := false) (by kernel_rfl) (decide_eq_false c9) ?_
    refine seqL1 (by kernel_rfl) ?_
    refine seqG (by kernel_rfl) (does_run (run_load rfl Try.underlying25 rfl (by kernel_rfl : _ = Value.pointer (some ⟨b1, 0, none⟩)) (HS.cell 0)) ?_)
    refine seqS3 (a' := ⟨#[.int .i64 x4, .pointer (some ⟨b1, 0, none⟩), undef, .bool (decide (x4 > v3)), .int .i64 x4, .bool false, .bool false, .int .i64 x4, .int .i64 v3, .bool (decide (x4 > v3)), .bool (decide (x4 > v3))], []⟩) (by kernel_rfl) ?_
    refine wpList_nil ?_
    refine hK8 _ _ ?_
    refine wp_ret ?_
    refine hret _ _ ?_
    refine ends_still (v := Value.bool (decide (x4 > v3))) (by kernel_rfl) (by kernel_rfl) ?_
    injection h with h
    subst h
    exact ⟨f, rfl, FM.le.refl _, HS⟩

set_option maxRecDepth 100000 in
set_option maxHeartbeats 4000000 in
theorem slices_IndexFunc_Light__sensor_outside_Light_1.calls (k : Nat) (b1 : Nat) (A5 : Option Addr) (c6 : Nat) (v3 : Int) (s4 : List Int) {t w : World} {f : FM} {H : List Seg} (HS : St t w f ([(b1, .cells #[.int .i64 v3] 25 (0, 0))] :: H)) (HR7 : SlR (tInt .i64) f A5 c6 s4) (r1 : Int) (h : slices_IndexFunc_Light__sensor_outside_Light_1 k v3 s4 = some r1) :
    Calls Try.prog 80 #[.slice A5 s4.length c6, .func (.func 63) #[] #[.pointer (some ⟨b1, 0, none⟩)]] w (fun e w' => ∃ (g : FM), e = .returned (Value.int .i64 r1) ∧ FM.le f g ∧ St t w' g ([(b1, .cells #[.int .i64 v3] 25 (0, 0))] :: H)) := by
  unfold slices_IndexFunc_Light__sensor_outside_Light_1 at h
  refine enter Try.func80 rfl (tm := #[.slice A5 s4.length c6, .func (.func 63) #[] #[.pointer (some ⟨b1, 0, none⟩)], undef, undef, undef, undef, undef, undef, undef, undef, undef, undef, undef, undef, undef, undef, undef, undef, undef]) (by kernel_rfl) ?_
  intro B hret hnor hnp
  refine wp_seq_k (fun K8 hK9 => ?_)
  refine wp_region_lit ?_
  refine seqS1 (a' := ⟨#[.slice A5 s4.length c6, .func (.func 63) #[] #[.pointer (some ⟨b1, 0, none⟩)], undef, undef, .int .i64 0, undef, undef, undef, undef, undef, undef, undef, undef, undef, undef, undef, undef, undef, undef], []⟩) (by kernel_rfl) ?_
  refine wpList_nil ?_
  refine hK9 _ _ ?_
  refine wp_seq_k (fun K10 hK11 => ?_)
  refine wp_seq_k (fun K12 hK13 => ?_)
  refine wp_region_lit ?_
  refine seqS3 (a' := ⟨#[.slice A5 s4.length c6, .func (.func 63) #[] #[.pointer (some ⟨b1, 0, none⟩)], undef, undef, .int .i64 0, undef, .slice A5 s4.length c6, .int .i64 (s4.length : Int), .int .i64 0, undef, undef, undef, undef, undef, undef, undef, undef, undef, undef], []⟩) (by kernel_rfl) ?_
  refine wpList_nil ?_
  refine hK13 _ _ ?_
  refine blockK (fun B14 hx15 hn16 hr17 ho18 hp19 => ?_)
  have hq_ := bind_some h; clear h; obtain ⟨o20, hv70, h⟩ := hq_
  have JR72 : ∀ z_, some (Sum.inl z_) = some o20 → some z_ = some r1 := by
    intro z_ e_; injection e_ with e_; subst e_; exact h
  have J71 : ∀ (f65 : FM) (j69 : Nat → Value) (W67 : World) (a_ : Act), FM.le f f65 → some (Sum.inr ()) = some o20 → St t W67 f65 ([(b1, .cells #[.int .i64 v3] 25 (0, 0))] :: H) → a_ = ⟨#[.slice A5 s4.length c6, .func (.func 63) #[] #[.pointer (some ⟨b1, 0, none⟩)], undef, undef, (j69 0), (j69 1), .slice A5 s4.length c6, .int .i64 (s4.length : Int), (j69 2), (j69 3), (j69 4), (j69 5), (j69 6), (j69 7), (j69 8), (j69 9), (j69 10), (j69 11), (j69 12)], []⟩ → K10 a_ W67 := by
    intro f65 j69 W67 a_ L66 hj73 HS68  hfr_; subst hfr_
    injection hj73 with hj73; subst hj73; try dsimp only at h
    simp only [Sum.elim_inr] at h
    refine hK11 _ _ ?_
    refine wp_seq_k (fun K74 hK75 => ?_)
    refine wp_region_lit ?_
    refine seqS1 (a' := ⟨#[.slice A5 s4.length c6, .func (.func 63) #[] #[.pointer (some ⟨b1, 0, none⟩)], undef, undef, .int .i64 (-1), (j69 1), .slice A5 s4.length c6, .int .i64 (s4.length : Int), (j69 2), (j69 3), (j69 4), (j69 5), (j69 6), (j69 7), (j69 8), (j69 9), (j69 10), (j69 11), (j69 12)], []⟩) (by kernel_rfl) ?_
    refine wpList_nil ?_
    refine hK75 _ _ ?_
    refine wp_ret ?_
    refine hret _ _ ?_
    refine ends_still (v := Value.int .i64 (-1)) (by kernel_rfl) (by kernel_rfl) ?_
    injection h with h
    subst h
    exact ⟨f65, rfl, L66, HS68⟩
  clear h; have h := hv70; clear hv70
  refine loopK (fun n_ a_ w_ => ∃ (f24 : FM) (x29 : Int) (j28 : Nat → Value), FM.le f f24 ∧ St t w_ f24 ([(b1, .cells #[.int .i64 v3] 25 (0, 0))] :: H) ∧ slices_IndexFunc_Light__sensor_outside_Light_1.l0 k s4 v3 n_ x29 = some o20 ∧ a_ = ⟨#[.slice A5 s4.length c6, .func (.func 63) #[] #[.pointer (some ⟨b1, 0, none⟩)], undef, undef, (j28 0), (j28 1), .slice A5 s4.length c6, .int .i64 (s4.length : Int), .int .i64 x29, (j28 2), (j28 3), (j28 4), (j28 5), (j28 6), (j28 7), (j28 8), (j28 9), (j28 10), (j28 11)], []⟩) k ⟨f, 0, (fun i_ => [Value.int .i64 0, undef, undef, undef, undef, undef, undef, undef, undef, undef, undef, undef].getD i_ undef), (FM.le.refl _), HS, h, (by kernel_rfl)⟩ ?_
  clear h
  rintro n23 _ W26 ⟨f24, x29, j28, L25, HS27, h, rfl⟩ K21 hK22
  obtain _ | n23 := n23
  · exact nomatch h
  simp only [slices_IndexFunc_Light__sensor_outside_Light_1.l0] at h
  refine wp_seq_k (fun K30 hK31 => ?_)
  refine wp_region_lit ?_
  refine seqS1 (a' := ⟨#[.slice A5 s4.length c6, .func (.func 63) #[] #[.pointer (some ⟨b1, 0, none⟩)], undef, undef, (j28 0), (j28 1), .slice A5 s4.length c6, .int .i64 (s4.length : Int), .int .i64 x29, .bool (decide (x29 < (s4.length : Int))), (j28 3), (j28 4), (j28 5), (j28 6), (j28 7), (j28 8), (j28 9), (j28 10), (j28 11)], []⟩) (by kernel_rfl) ?_
  refine wpList_nil ?_
  refine hK31 _ _ ?_
  refine wp_seq_k (fun K32 hK33 => ?_)
  have hq_ := ite_some h; clear h; rcases hq_ with ⟨c35, h⟩ | ⟨c35, h⟩
  · have c35 : x29 < (s4.length : Int) := c35
    refine wpRwI 9 (x := (decide (x29 < (s4.length : Int)))) (v := true) (by kernel_rfl) (decide_eq_true c35) ?_
    refine condT (by kernel_rfl) ?_
    refine wp_skip ?_
    refine hK33 _ _ ?_
    refine wp_seq_k (fun K36 hK37 => ?_)
    refine blockK (fun B38 hx39 hn40 hr41 ho42 hp43 => ?_)
    refine wp_seq_k (fun K45 hK46 => ?_)
    refine wp_region_lit ?_
    refine seqS2 (a' := ⟨#[.slice A5 s4.length c6, .func (.func 63) #[] #[.pointer (some ⟨b1, 0, none⟩)], undef, undef, (j28 0), .int .i64 x29, .slice A5 s4.length c6, .int .i64 (s4.length : Int), .int .i64 x29, .bool true, .int .i64 x29, (j28 4), (j28 5), (j28 6), (j28 7), (j28 8), (j28 9), (j28 10), (j28 11)], []⟩) (by kernel_rfl) ?_
    refine wpList_nil ?_
    refine hK46 _ _ ?_
    refine wp_seq_k (fun K47 hK48 => ?_)
    refine wp_region_lit ?_
    have hq_ := guard_some h; clear h; obtain ⟨c49, h⟩ := hq_
    have c49 : 0 ≤ x29 := c49
    obtain ⟨b53, of54, cs50, rfl, hr51, hc52⟩ := (HR7.mono L25).at (i := x29) c49 c35
    obtain rfl := hr51
    refine seqL3 (by kernel_rfl) ?_
    refine seqK rfl (does_run (run_index (sz := 1) rfl Try.underlying44 (by kernel_rfl) (by kernel_rfl : _ = Value.slice (some ⟨b53, of54, none⟩) s4.length c6) (by kernel_rfl : _ = Value.int .i64 x29) c49 c35 W26) ?_)
    refine seqK rfl (does_run (run_load rfl Try.underlying25 rfl (by kernel_rfl : _ = Value.pointer (some ⟨b53, of54 + (x29 : Int).toNat * 1, none⟩)) ((hc52 (FM.le.refl _) HS27) 0 (by decide))) ?_)
    have hq_ := bind_some h; clear h; obtain ⟨vt55, hc56, h⟩ := hq_
    refine seqK rfl (does_call (f := 63) (args := #[.int .i64 (rd s4 x29), .pointer (some ⟨b1, 0, none⟩)]) (by kernel_rfl) (sensor_outside_Light_1.calls k b1 v3 (rd s4 x29) HS27 vt55 hc56) ?_)
    rintro _ W59 ⟨f57, rfl, L58, HS60⟩
    refine ⟨_, rfl, ?_⟩
    refine wpList_nil ?_
    refine hK48 _ _ ?_
    have hq_ := ite_some h; clear h; rcases hq_ with ⟨c62, h⟩ | ⟨c62, h⟩
    · have c62 : vt55 = true := c62
      refine wpRwI 16 (x := vt55) (v := true) (by kernel_rfl) c62 ?_
      refine condT (by kernel_rfl) ?_
      refine wp_seq_k (fun K63 hK64 => ?_)
      refine wp_region_lit ?_
      refine seqS2 (a' := ⟨#[.slice (some ⟨b53, of54, none⟩) s4.length c6, .func (.func 63) #[] #[.pointer (some ⟨b1, 0, none⟩)], undef, undef, .int .i64 x29, .int .i64 x29, .slice (some ⟨b53, of54, none⟩) s4.length c6, .int .i64 (s4.length : Int), .int .i64 x29, .bool true, .int .i64 x29, .func (.func 63) #[] #[.pointer (some ⟨b1, 0, none⟩)], .slice (some ⟨b53, of54, none⟩) s4.length c6, .int .i64 x29, .pointer (some ⟨b53, of54 + (x29 : Int).toNat * 1, none⟩), .int .i64 (rd s4 x29), .bool true, .int .i64 x29, (j28 11)], []⟩) (by kernel_rfl) ?_
      refine wpList_nil ?_
      refine hK64 _ _ ?_
      refine wp_ret ?_
      refine hr41 _ _ ?_
      refine hr17 _ _ ?_
      refine hret _ _ ?_
      refine ends_still (v := Value.int .i64 x29) (by kernel_rfl) (by kernel_rfl) ?_
      replace h := JR72 _ h
      injection h with h
      subst h
      exact ⟨f57, rfl, (L25.trans L58), HS60⟩
    · have c62 : ¬ (vt55 = true) := c62
      refine wpRwI 16 (x := vt55) (v := false) (by kernel_rfl) (Bool.eq_false_iff.mpr c62) ?_
      refine condF (by kernel_rfl) ?_
      refine wp_skip ?_
      refine hn40 _ _ ?_
      refine hK37 _ _ ?_
      refine wp_region_lit ?_
      refine seqS2 (a' := ⟨#[.slice (some ⟨b53, of54, none⟩) s4.length c6, .func (.func 63) #[] #[.pointer (some ⟨b1, 0, none⟩)], undef, undef, (j28 0), .int .i64 x29, .slice (some ⟨b53, of54, none⟩) s4.length c6, .int .i64 (s4.length : Int), .int .i64 (w64 (x29 + 1)), .bool true, .int .i64 x29, .func (.func 63) #[] #[.pointer (some ⟨b1, 0, none⟩)], .slice (some ⟨b53, of54, none⟩) s4.length c6, .int .i64 x29, .pointer (some ⟨b53, of54 + (x29 : Int).toNat * 1, none⟩), .int .i64 (rd s4 x29), .bool false, (j28 10), .int .i64 (w64 (x29 + 1))], []⟩) (by kernel_rfl) ?_
      refine wpList_nil ?_
      refine hK22 n23 _ _ (Nat.lt_succ_self _) ?_
      exact ⟨f57, (w64 (x29 + 1)), (fun i_ => [(j28 0), Value.int .i64 x29, Value.bool true, Value.int .i64 x29, Value.func (.func 63) #[] #[.pointer (some ⟨b1, 0, none⟩)], Value.slice (some ⟨b53, of54, none⟩) s4.length c6, Value.int .i64 x29, Value.pointer (some ⟨b53, of54 + (x29 : Int).toNat * 1, none⟩), Value.int .i64 (rd s4 x29), Value.bool false, (j28 10), Value.int .i64 (w64 (x29 + 1))].getD i_ undef), (L25.trans L58), HS60, h, (by kernel_rfl)⟩
  · have c35 : ¬ (x29 < (s4.length : Int)) := c35
    refine wpRwI 9 (x := (decide (x29 < (s4.length : Int)))) (v := false) (by kernel_rfl) (decide_eq_false c35) ?_
    refine condF (by kernel_rfl) ?_
    refine wp_exit ?_
    refine hx15 _ _ ?_
    exact J71 f24 (fun i_ => [(j28 0), (j28 1), Value.int .i64 x29, Value.bool false, (j28 3), (j28 4), (j28 5), (j28 6), (j28 7), (j28 8), (j28 9), (j28 10), (j28 11)].getD i_ undef) W26 _ L25 h HS27 (by kernel_rfl)

set_option maxRecDepth 100000 in
set_option maxHeartbeats 4000000 in
theorem slices_ContainsFunc_Light__sensor_outside_Light_1.calls (k : Nat) (b1 : Nat) (A5 : Option Addr) (c6 : Nat) (v3 : Int) (s4 : List Int) {t w : World} {f : FM} {H : List Seg} (HS : St t w f ([(b1, .cells #[.int .i64 v3] 25 (0, 0))] :: H)) (HR7 : SlR (tInt .i64) f A5 c6 s4) (r1 : Bool) (h : slices_ContainsFunc_Light__sensor_outside_Light_1 k v3 s4 = some r1) :
    Calls Try.prog 62 #[.slice A5 s4.length c6, .func (.func 63) #[] #[.pointer (some ⟨b1, 0, none⟩)]] w (fun e w' => ∃ (g : FM), e = .returned (Value.bool r1) ∧ FM.le f g ∧ St t w' g ([(b1, .cells #[.int .i64 v3] 25 (0, 0))] :: H)) := by
  unfold slices_ContainsFunc_Light__sensor_outside_Light_1 at h
  refine enter Try.func62 rfl (tm := #[.slice A5 s4.length c6, .func (.func 63) #[] #[.pointer (some ⟨b1, 0, none⟩)], undef, undef, undef, undef, undef, undef, undef]) (by kernel_rfl) ?_
  intro B hret hnor hnp
  refine wp_seq_k (fun K8 hK9 => ?_)
  refine wp_region_lit ?_
  refine seqS1 (a' := ⟨#[.slice A5 s4.length c6, .func (.func 63) #[] #[.pointer (some ⟨b1, 0, none⟩)], undef, undef, .bool false, undef, undef, undef, undef], []⟩) (by kernel_rfl) ?_
  refine wpList_nil ?_
  refine hK9 _ _ ?_
  refine wp_seq_k (fun K10 hK11 => ?_)
  refine wp_region_lit ?_
  have hq_ := bind_some h; clear h; obtain ⟨vt12, hc13, h⟩ := hq_
  refine seqL2 (by kernel_rfl) ?_
  refine seqK rfl (does_call (f := 80) (args := #[.slice A5 s4.length c6, .func (.func 63) #[] #[.pointer (some ⟨b1, 0, none⟩)]]) (by kernel_rfl) (slices_IndexFunc_Light__sensor_outside_Light_1.calls k b1 A5 c6 v3 s4 HS HR7 vt12 hc13) ?_)
  rintro _ W16 ⟨f14, rfl, L15, HS17⟩
  refine ⟨_, rfl, ?_⟩
  refine seqS2 (a' := ⟨#[.slice A5 s4.length c6, .func (.func 63) #[] #[.pointer (some ⟨b1, 0, none⟩)], undef, undef, .bool (decide (vt12 ≥ 0)), .slice A5 s4.length c6, .func (.func 63) #[] #[.pointer (some ⟨b1, 0, none⟩)], .int .i64 vt12, .bool (decide (vt12 ≥ 0))], []⟩) (by kernel_rfl) ?_
  refine wpList_nil ?_
  refine hK11 _ _ ?_
  refine wp_ret ?_
  refine hret _ _ ?_
  refine ends_still (v := Value.bool (decide (vt12 ≥ 0))) (by kernel_rfl) (by kernel_rfl) ?_
  injection h with h
  subst h
  exact ⟨f14, rfl, L15, HS17⟩

set_option maxRecDepth 100000 in
set_option maxHeartbeats 4000000 in
theorem sensor_outside_Light.calls (k : Nat) (A2 : Option Addr) (c3 : Nat) (l1 : List Int) (most5 : Int) {t w : World} {f : FM} {H : List Seg} (HS : St t w f (H)) (HR4 : SlR (tInt .i64) f A2 c3 l1) (r1 : Bool) (h : sensor_outside_Light k l1 most5 = some r1) :
    Calls Try.prog 53 #[.slice A2 l1.length c3, .int .i64 most5] w (fun e w' => ∃ (g : FM), e = .returned (Value.bool r1) ∧ FM.le f g ∧ St t w' g (H)) := by
  unfold sensor_outside_Light at h
  refine enter Try.func53 rfl (tm := #[.slice A2 l1.length c3, .int .i64 most5, undef, undef, undef, undef, undef, undef]) (by kernel_rfl) ?_
  intro B hret hnor hnp
  refine wp_seq_k (fun K6 hK7 => ?_)
  refine wp_region_lit ?_
  refine seqK rfl (does_box (cs := #[.int .i64 most5]) rfl (by kernel_rfl : _ = Value.int .i64 most5) rfl HS ?_)
  intro b8 W9 HS10
  refine seqS1 (a' := ⟨#[.slice A2 l1.length c3, .int .i64 most5, undef, .pointer (some ⟨b8, 0, none⟩), .bool false, undef, undef, undef], []⟩) (by kernel_rfl) ?_
  refine wpList_nil ?_
  refine hK7 _ _ ?_
  refine wp_seq_k (fun K12 hK13 => ?_)
  refine wp_region_lit ?_
  have hq_ := bind_some h; clear h; obtain ⟨vt14, hc15, h⟩ := hq_
  refine seqL2 (by kernel_rfl) ?_
  refine seqK rfl (does_call (f := 62) (args := #[.slice A2 l1.length c3, .func (.func 63) #[] #[.pointer (some ⟨b8, 0, none⟩)]]) (by kernel_rfl) (slices_ContainsFunc_Light__sensor_outside_Light_1.calls k b8 A2 c3 most5 l1 HS10 HR4 vt14 hc15) ?_)
  rintro _ W18 ⟨f16, rfl, L17, HS19⟩
  refine ⟨_, rfl, ?_⟩
  refine seqS1 (a' := ⟨#[.slice A2 l1.length c3, .int .i64 most5, undef, .pointer (some ⟨b8, 0, none⟩), .bool vt14, .slice A2 l1.length c3, .func (.func 63) #[] #[.pointer (some ⟨b8, 0, none⟩)], .bool vt14], []⟩) (by kernel_rfl) ?_
  refine wpList_nil ?_
  refine hK13 _ _ ?_
  refine wp_ret ?_
  refine hret _ _ ?_
  refine ends_still (v := Value.bool vt14) (by kernel_rfl) (by kernel_rfl) ?_
  have HS20 := HS19.drop
  injection h with h
  subst h
  exact ⟨f16, rfl, L17, HS20⟩

end Go.Sp.X5
