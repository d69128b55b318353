import Derived.Test.YtaddopcbneggiaaProg
import Derived.Test.YtaddopcbneggiaaSpTwo
import Derived.Test.YtaddopcbneggiaaFZ5
namespace Go.Sp.Z5
open Go Go.Sp Go.Proofs
set_option linter.unusedVariables false
attribute [local irreducible] wpList AnyL Code.wp Calls Does
def ty_Stream : Ty S_Stream where
  sz := 2
  rep := fun f cs x => ∃ (A0 : Option Addr) (c0 : Nat), cs = [.slice A0 x.L.length c0, .int .i64 x.vat] ∧ SlR (tInt .i64) f A0 c0 x.L
  pos := by decide
  len := by rintro f cs x ⟨A0, c0, rfl, h0⟩; rfl
  mono := by rintro f g cs x hl ⟨A0, c0, rfl, h0⟩; exact ⟨A0, c0, rfl, h0.mono hl⟩
  one := by
    rintro f cs x ⟨A0, c0, rfl, h0⟩ v hv
    simp only [List.mem_cons, List.not_mem_nil, or_false] at hv
    rcases hv with rfl | rfl <;> rfl
def ty_Vec : Ty S_Vec where
  sz := 3
  rep := fun f cs x => cs = [.int .i64 x.X, .int .i64 x.Y, .int .i64 x.Z]
  pos := by decide
  len := by rintro f cs x rfl; rfl
  mono := by rintro f g cs x hl rfl; exact rfl
  one := by
    rintro f cs x rfl v hv
    simp only [List.mem_cons, List.not_mem_nil, or_false] at hv
    rcases hv with rfl | rfl | rfl <;> rfl
def ty_Body : Ty S_Body where
  sz := 8
  rep := fun f cs x => cs = [.int .i64 x.ID, .int .i64 x.Was.X, .int .i64 x.Was.Y, .int .i64 x.Was.Z, .int .i64 x.Here.X, .int .i64 x.Here.Y, .int .i64 x.Here.Z, .int .i64 x.Rate]
  pos := by decide
  len := by rintro f cs x rfl; rfl
  mono := by rintro f g cs x hl rfl; exact rfl
  one := by
    rintro f cs x rfl v hv
    simp only [List.mem_cons, List.not_mem_nil, or_false] at hv
    rcases hv with rfl | rfl | rfl | rfl | rfl | rfl | rfl | rfl <;> rfl
def ty_Wide : Ty S_Wide where
  sz := 2
  rep := fun f cs x => cs = [.int .i64 x.Hi, .int .u64 x.Lo]
  pos := by decide
  len := by rintro f cs x rfl; rfl
  mono := by rintro f g cs x hl rfl; exact rfl
  one := by
    rintro f cs x rfl v hv
    simp only [List.mem_cons, List.not_mem_nil, or_false] at hv
    rcases hv with rfl | rfl <;> rfl


set_option maxRecDepth 100000 in
set_option maxHeartbeats 4000000 in
theorem spymake_Below.calls (k : Nat)  (x1 : Int) (n2 : Int) {t w : World} {f : FM} {H : List Seg} (HS : St t w f (H)) (r1 : Int) (h : spymake_Below k x1 n2 = some r1) :
    Calls Try.prog 15 #[.int .i64 x1, .int .i64 n2] w (fun e w' => ∃ (g : FM), e = .returned (Value.int .i64 r1) ∧ FM.le f g ∧ St t w' g (H)) := by
  unfold spymake_Below at h
  refine enter Try.func15 rfl (tm := #[.int .i64 x1, .int .i64 n2, undef, undef, undef, undef, undef, undef, undef, undef, undef, undef, undef, undef, undef, undef]) (by kernel_rfl) ?_
  intro B hret hnor hnp
  refine wp_seq_k (fun K3 hK4 => ?_)
  refine wp_region_lit ?_
  refine seqS1 (a' := ⟨#[.int .i64 x1, .int .i64 n2, undef, undef, .int .i64 0, undef, undef, undef, undef, undef, undef, undef, undef, undef, undef, undef], []⟩) (by kernel_rfl) ?_
  refine wpList_nil ?_
  refine hK4 _ _ ?_
  refine wp_seq_k (fun K5 hK6 => ?_)
  refine wp_seq_k (fun K7 hK8 => ?_)
  refine wp_region_lit ?_
  refine seqS2 (a' := ⟨#[.int .i64 x1, .int .i64 n2, undef, undef, .int .i64 0, .int .i64 n2, .bool (decide (n2 < 1)), undef, undef, undef, undef, undef, undef, undef, undef, undef], []⟩) (by kernel_rfl) ?_
  refine wpList_nil ?_
  refine hK8 _ _ ?_
  have hq_ := ite_some h; clear h; rcases hq_ with ⟨c10, h⟩ | ⟨c10, h⟩
  · have c10 : n2 < 1 := c10
    refine wpRwI 6 (x := (decide (n2 < 1))) (v := true) (by kernel_rfl) (decide_eq_true c10) ?_
    refine condT (by kernel_rfl) ?_
    refine wp_seq_k (fun K11 hK12 => ?_)
    refine wp_region_lit ?_
    refine seqS1 (a' := ⟨#[.int .i64 x1, .int .i64 n2, undef, undef, .int .i64 0, .int .i64 n2, .bool true, undef, undef, undef, undef, undef, undef, undef, undef, undef], []⟩) (by kernel_rfl) ?_
    refine wpList_nil ?_
    refine hK12 _ _ ?_
    refine wp_ret ?_
    refine hret _ _ ?_
    refine ends_still (v := Value.int .i64 0) (by kernel_rfl) (by kernel_rfl) ?_
    injection h with h
    subst h
    exact ⟨f, rfl, FM.le.refl _, HS⟩
  · have c10 : ¬ (n2 < 1) := c10
    refine wpRwI 6 (x := (decide (n2 < 1))) (v := false) (by kernel_rfl) (decide_eq_false c10) ?_
    refine condF (by kernel_rfl) ?_
    refine wp_skip ?_
    refine hK6 _ _ ?_
    refine wp_seq_k (fun K13 hK14 => ?_)
    refine wp_region_lit ?_
    have hq_ := guard_some h; clear h; obtain ⟨c15, h⟩ := hq_
    have c15 : ¬ (n2 = 0) := c15
    refine seqL2 (by kernel_rfl) ?_
    refine seqK rfl (does_run (run_rem rfl (by kernel_rfl : _ = Value.int .i64 x1) (by kernel_rfl : _ = Value.int .i64 n2) c15 w) ?_)
    refine seqS1 (a' := ⟨#[.int .i64 (Int.tmod x1 n2), .int .i64 n2, undef, undef, .int .i64 0, .int .i64 n2, .bool false, .int .i64 x1, .int .i64 n2, .int .i64 (Int.tmod x1 n2), undef, undef, undef, undef, undef, undef], []⟩) (by kernel_rfl) ?_
    refine wpList_nil ?_
    refine hK14 _ _ ?_
    refine wp_seq_k (fun K16 hK17 => ?_)
    refine wp_seq_k (fun K18 hK19 => ?_)
    refine wp_region_lit ?_
    refine seqS2 (a' := ⟨#[.int .i64 (Int.tmod x1 n2), .int .i64 n2, undef, undef, .int .i64 0, .int .i64 n2, .bool false, .int .i64 x1, .int .i64 n2, .int .i64 (Int.tmod x1 n2), .int .i64 (Int.tmod x1 n2), .bool (decide ((Int.tmod x1 n2) < 0)), undef, undef, undef, undef], []⟩) (by kernel_rfl) ?_
    refine wpList_nil ?_
    refine hK19 _ _ ?_
    have hq_ := ite_some h; clear h; rcases hq_ with ⟨c21, h⟩ | ⟨c21, h⟩
    · have c21 : (Int.tmod x1 n2) < 0 := c21
      refine wpRwI 11 (x := (decide ((Int.tmod x1 n2) < 0))) (v := true) (by kernel_rfl) (decide_eq_true c21) ?_
      refine condT (by kernel_rfl) ?_
      refine wp_region_lit ?_
      refine seqS4 (a' := ⟨#[.int .i64 (w64 ((Int.tmod x1 n2) + n2)), .int .i64 n2, undef, undef, .int .i64 0, .int .i64 n2, .bool false, .int .i64 x1, .int .i64 n2, .int .i64 (Int.tmod x1 n2), .int .i64 (Int.tmod x1 n2), .bool true, .int .i64 (Int.tmod x1 n2), .int .i64 n2, .int .i64 (w64 ((Int.tmod x1 n2) + n2)), undef], []⟩) (by kernel_rfl) ?_
      refine wpList_nil ?_
      refine hK17 _ _ ?_
      refine wp_seq_k (fun K22 hK23 => ?_)
      refine wp_region_lit ?_
      refine seqS2 (a' := ⟨#[.int .i64 (w64 ((Int.tmod x1 n2) + n2)), .int .i64 n2, undef, undef, .int .i64 (w64 ((Int.tmod x1 n2) + n2)), .int .i64 n2, .bool false, .int .i64 x1, .int .i64 n2, .int .i64 (Int.tmod x1 n2), .int .i64 (Int.tmod x1 n2), .bool true, .int .i64 (Int.tmod x1 n2), .int .i64 n2, .int .i64 (w64 ((Int.tmod x1 n2) + n2)), .int .i64 (w64 ((Int.tmod x1 n2) + n2))], []⟩) (by kernel_rfl) ?_
      refine wpList_nil ?_
      refine hK23 _ _ ?_
      refine wp_ret ?_
      refine hret _ _ ?_
      refine ends_still (v := Value.int .i64 (w64 ((Int.tmod x1 n2) + n2))) (by kernel_rfl) (by kernel_rfl) ?_
      injection h with h
      subst h
      exact ⟨f, rfl, FM.le.refl _, HS⟩
    · have c21 : ¬ ((Int.tmod x1 n2) < 0) := c21
      refine wpRwI 11 (x := (decide ((Int.tmod x1 n2) < 0))) (v := false) (by kernel_rfl) (decide_eq_false c21) ?_
      refine condF (by kernel_rfl) ?_
      refine wp_skip ?_
      refine hK17 _ _ ?_
      refine wp_seq_k (fun K24 hK25 => ?_)
      refine wp_region_lit ?_
      refine seqS2 (a' := ⟨#[.int .i64 (Int.tmod x1 n2), .int .i64 n2, undef, undef, .int .i64 (Int.tmod x1 n2), .int .i64 n2, .bool false, .int .i64 x1, .int .i64 n2, .int .i64 (Int.tmod x1 n2), .int .i64 (Int.tmod x1 n2), .bool false, undef, undef, undef, .int .i64 (Int.tmod x1 n2)], []⟩) (by kernel_rfl) ?_
      refine wpList_nil ?_
      refine hK25 _ _ ?_
      refine wp_ret ?_
      refine hret _ _ ?_
      refine ends_still (v := Value.int .i64 (Int.tmod x1 n2)) (by kernel_rfl) (by kernel_rfl) ?_
      injection h with h
      subst h
      exact ⟨f, rfl, FM.le.refl _, HS⟩

set_option maxRecDepth 100000 in
set_option maxHeartbeats 4000000 in
theorem spymake_Stream_Next.calls (k : Nat) (b1 : Nat) (A4 : Option Addr) (c5 : Nat) (s3 : S_Stream) (n7 : Int) {t w : World} {f : FM} {H : List Seg} (HS : St t w f ([(b1, .cells #[.slice A4 s3.L.length c5, .int .i64 s3.vat] 33 (0, 0))] :: H)) (HR6 : SlR (tInt .i64) f A4 c5 s3.L) (r1 : Int) (r2 : Int) (h : spymake_Stream_Next k s3 n7 = some (r1, r2)) :
    Calls Try.prog 30 #[.pointer (some ⟨b1, 0, none⟩), .int .i64 n7] w (fun e w' => ∃ (g : FM), e = .returned (Value.int .i64 r1) ∧ FM.le f g ∧ St t w' g ([(b1, .cells #[.slice A4 s3.L.length c5, .int .i64 r2] 33 (0, 0))] :: H)) := by
  unfold spymake_Stream_Next at h
  refine enter Try.func30 rfl (tm := #[.pointer (some ⟨b1, 0, none⟩), .int .i64 n7, undef, undef, undef, undef, undef, undef, undef, undef, undef, undef, undef, undef, undef, undef, undef, undef, undef, undef, undef, undef, undef, undef, undef, undef, undef, undef, undef, undef, undef, undef, undef, undef, undef, undef, undef, undef, undef, undef, undef, undef, undef, undef, undef, undef, undef, undef, undef, undef, undef, undef, undef, undef, undef, undef, undef, undef, undef, undef, undef, undef, undef, undef]) (by kernel_rfl) ?_
  intro B hret hnor hnp
  refine wp_seq_k (fun K8 hK9 => ?_)
  refine wp_region_lit ?_
  refine seqS1 (a' := ⟨#[.pointer (some ⟨b1, 0, none⟩), .int .i64 n7, undef, undef, .int .i64 0, undef, undef, undef, undef, undef, undef, undef, undef, undef, undef, undef, undef, undef, undef, undef, undef, undef, undef, undef, undef, undef, undef, undef, undef, undef, undef, undef, undef, undef, undef, undef, undef, undef, undef, undef, undef, undef, undef, undef, undef, undef, undef, undef, undef, undef, undef, undef, undef, undef, undef, undef, undef, undef, undef, undef, undef, undef, undef, undef], []⟩) (by kernel_rfl) ?_
  refine wpList_nil ?_
  refine hK9 _ _ ?_
  refine wp_seq_k (fun K10 hK11 => ?_)
  refine wp_region_lit ?_
  refine seqL3 (by kernel_rfl) ?_
  refine seqK rfl (does_run (run_load rfl Try.underlying3 rfl (by kernel_rfl : _ = Value.pointer (some ⟨b1, 1, none⟩)) (HS.cell 1)) ?_)
  refine seqL3 (by kernel_rfl) ?_
  refine seqK rfl (does_store (n := 1) (vs := [.int .i64 (w64 (s3.vat + 1))]) (cs' := #[.slice A4 s3.L.length c5, .int .i64 (w64 (s3.vat + 1))]) rfl (by kernel_rfl) (by kernel_rfl : _ = Value.pointer (some ⟨b1, 1, none⟩)) (by kernel_rfl : _ = Value.int .i64 (w64 (s3.vat + 1))) rfl rfl (by intro u_ hu_; simp only [List.mem_cons, List.not_mem_nil, or_false] at hu_; subst hu_; rfl) HS (Nat.le_of_ble_eq_true rfl) (by kernel_rfl) ?_)
  intro W12 HS13
  refine wpList_nil ?_
  refine hK11 _ _ ?_
  refine wp_seq_k (fun K14 hK15 => ?_)
  refine wp_seq_k (fun K16 hK17 => ?_)
  refine wp_region_lit ?_
  refine seqL3 (by kernel_rfl) ?_
  refine seqK rfl (does_run (run_load rfl Try.underlying30 rfl (by kernel_rfl : _ = Value.pointer (some ⟨b1, 0, none⟩)) (HS13.cell 0)) ?_)
  refine seqS2 (a' := ⟨#[.pointer (some ⟨b1, 0, none⟩), .int .i64 n7, undef, undef, .int .i64 0, undef, undef, .pointer (some ⟨b1, 0, none⟩), .pointer (some ⟨b1, 0, none⟩), .pointer (some ⟨b1, 1, none⟩), .int .i64 s3.vat, .int .i64 (w64 (s3.vat + 1)), .pointer (some ⟨b1, 0, none⟩), .pointer (some ⟨b1, 1, none⟩), .pointer (some ⟨b1, 0, none⟩), .pointer (some ⟨b1, 0, none⟩), .pointer (some ⟨b1, 0, none⟩), .slice A4 s3.L.length c5, .int .i64 (s3.L.length : Int), .bool ((s3.L.length : Int) == 0), undef, undef, undef, undef, undef, undef, undef, undef, undef, undef, undef, undef, undef, undef, undef, undef, undef, undef, undef, undef, undef, undef, undef, undef, undef, undef, undef, undef, undef, undef, undef, undef, undef, undef, undef, undef, undef, undef, undef, undef, undef, undef, undef, undef], []⟩) (by kernel_rfl) ?_
  refine wpList_nil ?_
  refine hK17 _ _ ?_
  have hq_ := ite_some h; clear h; rcases hq_ with ⟨c19, h⟩ | ⟨c19, h⟩
  · have c19 : (s3.L.length : Int) = 0 := c19
    refine wpRwI 19 (x := ((s3.L.length : Int) == 0)) (v := true) (by kernel_rfl) (beq_iff_eq.mpr c19) ?_
    refine condT (by kernel_rfl) ?_
    refine wp_seq_k (fun K20 hK21 => ?_)
    refine wp_region_lit ?_
    refine seqL3 (by kernel_rfl) ?_
    refine seqK rfl (does_run (run_load rfl Try.underlying3 rfl (by kernel_rfl : _ = Value.pointer (some ⟨b1, 1, none⟩)) (HS13.cell 1)) ?_)
    have hq_ := bind_some h; clear h; obtain ⟨vt22, hc23, h⟩ := hq_
    refine seqL2 (by kernel_rfl) ?_
    refine seqK rfl (does_call (f := 15) (args := #[.int .i64 (w64 ((w64 (s3.vat + 1)) * 7919)), .int .i64 n7]) (by kernel_rfl) (spymake_Below.calls k (w64 ((w64 (s3.vat + 1)) * 7919)) n7 HS13 vt22 hc23) ?_)
    rintro _ W26 ⟨f24, rfl, L25, HS27⟩
    refine ⟨_, rfl, ?_⟩
    refine seqS1 (a' := ⟨#[.pointer (some ⟨b1, 0, none⟩), .int .i64 n7, undef, undef, .int .i64 vt22, undef, undef, .pointer (some ⟨b1, 0, none⟩), .pointer (some ⟨b1, 0, none⟩), .pointer (some ⟨b1, 1, none⟩), .int .i64 s3.vat, .int .i64 (w64 (s3.vat + 1)), .pointer (some ⟨b1, 0, none⟩), .pointer (some ⟨b1, 1, none⟩), .pointer (some ⟨b1, 0, none⟩), .pointer (some ⟨b1, 0, none⟩), .pointer (some ⟨b1, 0, none⟩), .slice A4 s3.L.length c5, .int .i64 (s3.L.length : Int), .bool true, .pointer (some ⟨b1, 0, none⟩), .pointer (some ⟨b1, 0, none⟩), .pointer (some ⟨b1, 1, none⟩), .int .i64 (w64 (s3.vat + 1)), .int .i64 (w64 ((w64 (s3.vat + 1)) * 7919)), .int .i64 n7, .int .i64 vt22, undef, undef, undef, undef, undef, undef, undef, undef, undef, undef, undef, undef, undef, undef, undef, undef, undef, undef, undef, undef, undef, undef, undef, undef, undef, undef, undef, undef, undef, undef, undef, undef, undef, undef, undef, undef, undef], []⟩) (by kernel_rfl) ?_
    refine wpList_nil ?_
    refine hK21 _ _ ?_
    refine wp_ret ?_
    refine hret _ _ ?_
    refine ends_still (v := Value.int .i64 vt22) (by kernel_rfl) (by kernel_rfl) ?_
    injection h with h
    injection h with h0_ h
    subst h0_ h
    exact ⟨f24, rfl, L25, HS27⟩
  · have c19 : ¬ ((s3.L.length : Int) = 0) := c19
    refine wpRwI 19 (x := ((s3.L.length : Int) == 0)) (v := false) (by kernel_rfl) (beq_eq_false_iff_ne.mpr c19) ?_
    refine condF (by kernel_rfl) ?_
    refine wp_skip ?_
    refine hK15 _ _ ?_
    refine wp_seq_k (fun K28 hK29 => ?_)
    refine heldG (S := Sg t f ([(b1, .cells #[.slice A4 s3.L.length c5, .int .i64 (w64 (s3.vat + 1))] 33 (0, 0))] :: H) []) (n := 12) (by kernel_rfl) rfl HS13 ?_
    intro W30 HS31
    refine takeG [0, 1, 2] (n := 12) (fuel := 9) (l' := #[true, true, true, false, false, false, false, false, false, false, false, false]) (a' := ⟨#[.pointer (some ⟨b1, 0, none⟩), .int .i64 n7, undef, undef, .int .i64 0, undef, undef, .pointer (some ⟨b1, 0, none⟩), .pointer (some ⟨b1, 0, none⟩), .pointer (some ⟨b1, 1, none⟩), .int .i64 s3.vat, .int .i64 (w64 (s3.vat + 1)), .pointer (some ⟨b1, 0, none⟩), .pointer (some ⟨b1, 1, none⟩), .pointer (some ⟨b1, 0, none⟩), .pointer (some ⟨b1, 0, none⟩), .pointer (some ⟨b1, 0, none⟩), .slice A4 s3.L.length c5, .int .i64 (s3.L.length : Int), .bool false, undef, undef, undef, undef, undef, undef, undef, .pointer (some ⟨b1, 0, none⟩), .pointer (some ⟨b1, 0, none⟩), .pointer (some ⟨b1, 1, none⟩), undef, undef, undef, undef, undef, undef, undef, undef, undef, undef, undef, undef, undef, undef, undef, undef, undef, undef, undef, undef, undef, undef, undef, undef, undef, undef, undef, undef, undef, undef, undef, undef, undef, undef], []⟩) rfl (by kernel_rfl) (by kernel_rfl) (by kernel_rfl) hnp (Sg.g0 (Sx.of [] (FM.le.refl _) HS31)) ?_
    refine takeGQ 3 [] rfl (by kernel_rfl) (by kernel_rfl) (by kernel_rfl) (by kernel_rfl) (by kernel_rfl) (by kernel_rfl) hnp (Sg.g0 (Sx.of [] (FM.le.refl _) HS31)) (fun w_ hw_ => by obtain ⟨g_, hl_, hS_⟩ := hw_.st; exact run_load rfl Try.underlying3 rfl (by kernel_rfl : _ = Value.pointer (some ⟨b1, 1, none⟩)) (hS_.cell 1)) ?_
    refine takeG [4, 5, 6, 7] (n := 8) (fuel := 4) (l' := #[true, true, true, true, true, true, true, true, false, false, false, false]) (a' := ⟨#[.pointer (some ⟨b1, 0, none⟩), .int .i64 n7, undef, undef, .int .i64 0, undef, undef, .pointer (some ⟨b1, 0, none⟩), .pointer (some ⟨b1, 0, none⟩), .pointer (some ⟨b1, 1, none⟩), .int .i64 s3.vat, .int .i64 (w64 (s3.vat + 1)), .pointer (some ⟨b1, 0, none⟩), .pointer (some ⟨b1, 1, none⟩), .pointer (some ⟨b1, 0, none⟩), .pointer (some ⟨b1, 0, none⟩), .pointer (some ⟨b1, 0, none⟩), .slice A4 s3.L.length c5, .int .i64 (s3.L.length : Int), .bool false, undef, undef, undef, undef, undef, undef, undef, .pointer (some ⟨b1, 0, none⟩), .pointer (some ⟨b1, 0, none⟩), .pointer (some ⟨b1, 1, none⟩), .int .i64 (w64 (s3.vat + 1)), .int .i64 (w64 ((w64 (s3.vat + 1)) - 1)), .pointer (some ⟨b1, 0, none⟩), .pointer (some ⟨b1, 0, none⟩), .pointer (some ⟨b1, 0, none⟩), undef, undef, undef, undef, undef, undef, undef, undef, undef, undef, undef, undef, undef, undef, undef, undef, undef, undef, undef, undef, undef, undef, undef, undef, undef, undef, undef, undef, undef], []⟩) rfl (by kernel_rfl) (by kernel_rfl) (by kernel_rfl) hnp (Sg.g0 (Sx.of [] (FM.le.refl _) HS31)) ?_
    refine takeGQ 8 [] rfl (by kernel_rfl) (by kernel_rfl) (by kernel_rfl) (by kernel_rfl) (by kernel_rfl) (by kernel_rfl) hnp (Sg.g0 (Sx.of [] (FM.le.refl _) HS31)) (fun w_ hw_ => by obtain ⟨g_, hl_, hS_⟩ := hw_.st; exact run_load rfl Try.underlying30 rfl (by kernel_rfl : _ = Value.pointer (some ⟨b1, 0, none⟩)) (hS_.cell 0)) ?_
    have hq_ := guard_some h; clear h; obtain ⟨c32, h⟩ := hq_
    have c32 : ¬ ((s3.L.length : Int) = 0) := c32
    refine takeG [9] (n := 3) (fuel := 2) (l' := #[true, true, true, true, true, true, true, true, true, true, false, false]) (a' := ⟨#[.pointer (some ⟨b1, 0, none⟩), .int .i64 n7, undef, undef, .int .i64 0, undef, undef, .pointer (some ⟨b1, 0, none⟩), .pointer (some ⟨b1, 0, none⟩), .pointer (some ⟨b1, 1, none⟩), .int .i64 s3.vat, .int .i64 (w64 (s3.vat + 1)), .pointer (some ⟨b1, 0, none⟩), .pointer (some ⟨b1, 1, none⟩), .pointer (some ⟨b1, 0, none⟩), .pointer (some ⟨b1, 0, none⟩), .pointer (some ⟨b1, 0, none⟩), .slice A4 s3.L.length c5, .int .i64 (s3.L.length : Int), .bool false, undef, undef, undef, undef, undef, undef, undef, .pointer (some ⟨b1, 0, none⟩), .pointer (some ⟨b1, 0, none⟩), .pointer (some ⟨b1, 1, none⟩), .int .i64 (w64 (s3.vat + 1)), .int .i64 (w64 ((w64 (s3.vat + 1)) - 1)), .pointer (some ⟨b1, 0, none⟩), .pointer (some ⟨b1, 0, none⟩), .pointer (some ⟨b1, 0, none⟩), .slice A4 s3.L.length c5, .int .i64 (s3.L.length : Int), undef, undef, undef, undef, undef, undef, undef, undef, undef, undef, undef, undef, undef, undef, undef, undef, undef, undef, undef, undef, undef, undef, undef, undef, undef, undef, undef], []⟩) rfl (by kernel_rfl) (by kernel_rfl) (by kernel_rfl) hnp (Sg.g0 (Sx.of [] (FM.le.refl _) HS31)) ?_
    refine takeGQ 10 [] rfl (by kernel_rfl) (by kernel_rfl) (by kernel_rfl) (by kernel_rfl) (by kernel_rfl) (by kernel_rfl) hnp (Sg.g0 (Sx.of [] (FM.le.refl _) HS31)) (fun w_ hw_ => by obtain ⟨g_, hl_, hS_⟩ := hw_.st; exact run_rem rfl (by kernel_rfl : _ = Value.int .i64 (w64 ((w64 (s3.vat + 1)) - 1))) (by kernel_rfl : _ = Value.int .i64 (s3.L.length : Int)) c32 w_) ?_
    refine takeG [11] (n := 1) (fuel := 0) (l' := #[true, true, true, true, true, true, true, true, true, true, true, true]) (a' := ⟨#[.pointer (some ⟨b1, 0, none⟩), .int .i64 n7, undef, undef, .int .i64 0, .int .i64 (Int.tmod (w64 ((w64 (s3.vat + 1)) - 1)) (s3.L.length : Int)), undef, .pointer (some ⟨b1, 0, none⟩), .pointer (some ⟨b1, 0, none⟩), .pointer (some ⟨b1, 1, none⟩), .int .i64 s3.vat, .int .i64 (w64 (s3.vat + 1)), .pointer (some ⟨b1, 0, none⟩), .pointer (some ⟨b1, 1, none⟩), .pointer (some ⟨b1, 0, none⟩), .pointer (some ⟨b1, 0, none⟩), .pointer (some ⟨b1, 0, none⟩), .slice A4 s3.L.length c5, .int .i64 (s3.L.length : Int), .bool false, undef, undef, undef, undef, undef, undef, undef, .pointer (some ⟨b1, 0, none⟩), .pointer (some ⟨b1, 0, none⟩), .pointer (some ⟨b1, 1, none⟩), .int .i64 (w64 (s3.vat + 1)), .int .i64 (w64 ((w64 (s3.vat + 1)) - 1)), .pointer (some ⟨b1, 0, none⟩), .pointer (some ⟨b1, 0, none⟩), .pointer (some ⟨b1, 0, none⟩), .slice A4 s3.L.length c5, .int .i64 (s3.L.length : Int), .int .i64 (Int.tmod (w64 ((w64 (s3.vat + 1)) - 1)) (s3.L.length : Int)), undef, undef, undef, undef, undef, undef, undef, undef, undef, undef, undef, undef, undef, undef, undef, undef, undef, undef, undef, undef, undef, undef, undef, undef, undef, undef], []⟩) rfl (by kernel_rfl) (by kernel_rfl) (by kernel_rfl) hnp (Sg.g0 (Sx.of [] (FM.le.refl _) HS31)) ?_
    refine doneG (by kernel_rfl) ?_ _
    refine hK29 _ _ ?_
    refine wp_seq_k (fun K33 hK34 => ?_)
    refine heldG (S := Sg t f ([(b1, .cells #[.slice A4 s3.L.length c5, .int .i64 (w64 (s3.vat + 1))] 33 (0, 0))] :: H) []) (n := 12) (by kernel_rfl) rfl HS31 ?_
    intro W35 HS36
    refine takeG [0, 1, 2] (n := 12) (fuel := 9) (l' := #[true, true, true, false, false, false, false, false, false, false, false, false]) (a' := ⟨#[.pointer (some ⟨b1, 0, none⟩), .int .i64 n7, undef, undef, .int .i64 0, .int .i64 (Int.tmod (w64 ((w64 (s3.vat + 1)) - 1)) (s3.L.length : Int)), undef, .pointer (some ⟨b1, 0, none⟩), .pointer (some ⟨b1, 0, none⟩), .pointer (some ⟨b1, 1, none⟩), .int .i64 s3.vat, .int .i64 (w64 (s3.vat + 1)), .pointer (some ⟨b1, 0, none⟩), .pointer (some ⟨b1, 1, none⟩), .pointer (some ⟨b1, 0, none⟩), .pointer (some ⟨b1, 0, none⟩), .pointer (some ⟨b1, 0, none⟩), .slice A4 s3.L.length c5, .int .i64 (s3.L.length : Int), .bool false, undef, undef, undef, undef, undef, undef, undef, .pointer (some ⟨b1, 0, none⟩), .pointer (some ⟨b1, 0, none⟩), .pointer (some ⟨b1, 1, none⟩), .int .i64 (w64 (s3.vat + 1)), .int .i64 (w64 ((w64 (s3.vat + 1)) - 1)), .pointer (some ⟨b1, 0, none⟩), .pointer (some ⟨b1, 0, none⟩), .pointer (some ⟨b1, 0, none⟩), .slice A4 s3.L.length c5, .int .i64 (s3.L.length : Int), .int .i64 (Int.tmod (w64 ((w64 (s3.vat + 1)) - 1)) (s3.L.length : Int)), .pointer (some ⟨b1, 0, none⟩), .pointer (some ⟨b1, 0, none⟩), .pointer (some ⟨b1, 1, none⟩), undef, undef, undef, undef, undef, undef, undef, undef, undef, undef, undef, undef, undef, undef, undef, undef, undef, undef, undef, undef, undef, undef, undef], []⟩) rfl (by kernel_rfl) (by kernel_rfl) (by kernel_rfl) hnp (Sg.g0 (Sx.of [] (FM.le.refl _) HS36)) ?_
    refine takeGQ 3 [] rfl (by kernel_rfl) (by kernel_rfl) (by kernel_rfl) (by kernel_rfl) (by kernel_rfl) (by kernel_rfl) hnp (Sg.g0 (Sx.of [] (FM.le.refl _) HS36)) (fun w_ hw_ => by obtain ⟨g_, hl_, hS_⟩ := hw_.st; exact run_load rfl Try.underlying3 rfl (by kernel_rfl : _ = Value.pointer (some ⟨b1, 1, none⟩)) (hS_.cell 1)) ?_
    refine takeG [4, 5, 6, 7] (n := 8) (fuel := 4) (l' := #[true, true, true, true, true, true, true, true, false, false, false, false]) (a' := ⟨#[.pointer (some ⟨b1, 0, none⟩), .int .i64 n7, undef, undef, .int .i64 0, .int .i64 (Int.tmod (w64 ((w64 (s3.vat + 1)) - 1)) (s3.L.length : Int)), undef, .pointer (some ⟨b1, 0, none⟩), .pointer (some ⟨b1, 0, none⟩), .pointer (some ⟨b1, 1, none⟩), .int .i64 s3.vat, .int .i64 (w64 (s3.vat + 1)), .pointer (some ⟨b1, 0, none⟩), .pointer (some ⟨b1, 1, none⟩), .pointer (some ⟨b1, 0, none⟩), .pointer (some ⟨b1, 0, none⟩), .pointer (some ⟨b1, 0, none⟩), .slice A4 s3.L.length c5, .int .i64 (s3.L.length : Int), .bool false, undef, undef, undef, undef, undef, undef, undef, .pointer (some ⟨b1, 0, none⟩), .pointer (some ⟨b1, 0, none⟩), .pointer (some ⟨b1, 1, none⟩), .int .i64 (w64 (s3.vat + 1)), .int .i64 (w64 ((w64 (s3.vat + 1)) - 1)), .pointer (some ⟨b1, 0, none⟩), .pointer (some ⟨b1, 0, none⟩), .pointer (some ⟨b1, 0, none⟩), .slice A4 s3.L.length c5, .int .i64 (s3.L.length : Int), .int .i64 (Int.tmod (w64 ((w64 (s3.vat + 1)) - 1)) (s3.L.length : Int)), .pointer (some ⟨b1, 0, none⟩), .pointer (some ⟨b1, 0, none⟩), .pointer (some ⟨b1, 1, none⟩), .int .i64 (w64 (s3.vat + 1)), .int .i64 (w64 ((w64 (s3.vat + 1)) - 1)), .pointer (some ⟨b1, 0, none⟩), .pointer (some ⟨b1, 0, none⟩), .pointer (some ⟨b1, 0, none⟩), undef, undef, undef, undef, undef, undef, undef, undef, undef, undef, undef, undef, undef, undef, undef, undef, undef, undef], []⟩) rfl (by kernel_rfl) (by kernel_rfl) (by kernel_rfl) hnp (Sg.g0 (Sx.of [] (FM.le.refl _) HS36)) ?_
    refine takeGQ 8 [] rfl (by kernel_rfl) (by kernel_rfl) (by kernel_rfl) (by kernel_rfl) (by kernel_rfl) (by kernel_rfl) hnp (Sg.g0 (Sx.of [] (FM.le.refl _) HS36)) (fun w_ hw_ => by obtain ⟨g_, hl_, hS_⟩ := hw_.st; exact run_load rfl Try.underlying30 rfl (by kernel_rfl : _ = Value.pointer (some ⟨b1, 0, none⟩)) (hS_.cell 0)) ?_
    refine takeG [9] (n := 3) (fuel := 2) (l' := #[true, true, true, true, true, true, true, true, true, true, false, false]) (a' := ⟨#[.pointer (some ⟨b1, 0, none⟩), .int .i64 n7, undef, undef, .int .i64 0, .int .i64 (Int.tmod (w64 ((w64 (s3.vat + 1)) - 1)) (s3.L.length : Int)), undef, .pointer (some ⟨b1, 0, none⟩), .pointer (some ⟨b1, 0, none⟩), .pointer (some ⟨b1, 1, none⟩), .int .i64 s3.vat, .int .i64 (w64 (s3.vat + 1)), .pointer (some ⟨b1, 0, none⟩), .pointer (some ⟨b1, 1, none⟩), .pointer (some ⟨b1, 0, none⟩), .pointer (some ⟨b1, 0, none⟩), .pointer (some ⟨b1, 0, none⟩), .slice A4 s3.L.length c5, .int .i64 (s3.L.length : Int), .bool false, undef, undef, undef, undef, undef, undef, undef, .pointer (some ⟨b1, 0, none⟩), .pointer (some ⟨b1, 0, none⟩), .pointer (some ⟨b1, 1, none⟩), .int .i64 (w64 (s3.vat + 1)), .int .i64 (w64 ((w64 (s3.vat + 1)) - 1)), .pointer (some ⟨b1, 0, none⟩), .pointer (some ⟨b1, 0, none⟩), .pointer (some ⟨b1, 0, none⟩), .slice A4 s3.L.length c5, .int .i64 (s3.L.length : Int), .int .i64 (Int.tmod (w64 ((w64 (s3.vat + 1)) - 1)) (s3.L.length : Int)), .pointer (some ⟨b1, 0, none⟩), .pointer (some ⟨b1, 0, none⟩), .pointer (some ⟨b1, 1, none⟩), .int .i64 (w64 (s3.vat + 1)), .int .i64 (w64 ((w64 (s3.vat + 1)) - 1)), .pointer (some ⟨b1, 0, none⟩), .pointer (some ⟨b1, 0, none⟩), .pointer (some ⟨b1, 0, none⟩), .slice A4 s3.L.length c5, .int .i64 (s3.L.length : Int), undef, undef, undef, undef, undef, undef, undef, undef, undef, undef, undef, undef, undef, undef, undef, undef], []⟩) rfl (by kernel_rfl) (by kernel_rfl) (by kernel_rfl) hnp (Sg.g0 (Sx.of [] (FM.le.refl _) HS36)) ?_
    refine takeGQ 10 [] rfl (by kernel_rfl) (by kernel_rfl) (by kernel_rfl) (by kernel_rfl) (by kernel_rfl) (by kernel_rfl) hnp (Sg.g0 (Sx.of [] (FM.le.refl _) HS36)) (fun w_ hw_ => by obtain ⟨g_, hl_, hS_⟩ := hw_.st; exact run_div rfl (by kernel_rfl : _ = Value.int .i64 (w64 ((w64 (s3.vat + 1)) - 1))) (by kernel_rfl : _ = Value.int .i64 (s3.L.length : Int)) c32 w_) ?_
    refine takeG [11] (n := 1) (fuel := 0) (l' := #[true, true, true, true, true, true, true, true, true, true, true, true]) (a' := ⟨#[.pointer (some ⟨b1, 0, none⟩), .int .i64 n7, undef, undef, .int .i64 0, .int .i64 (Int.tmod (w64 ((w64 (s3.vat + 1)) - 1)) (s3.L.length : Int)), .int .i64 (w64 (Int.tdiv (w64 ((w64 (s3.vat + 1)) - 1)) (s3.L.length : Int))), .pointer (some ⟨b1, 0, none⟩), .pointer (some ⟨b1, 0, none⟩), .pointer (some ⟨b1, 1, none⟩), .int .i64 s3.vat, .int .i64 (w64 (s3.vat + 1)), .pointer (some ⟨b1, 0, none⟩), .pointer (some ⟨b1, 1, none⟩), .pointer (some ⟨b1, 0, none⟩), .pointer (some ⟨b1, 0, none⟩), .pointer (some ⟨b1, 0, none⟩), .slice A4 s3.L.length c5, .int .i64 (s3.L.length : Int), .bool false, undef, undef, undef, undef, undef, undef, undef, .pointer (some ⟨b1, 0, none⟩), .pointer (some ⟨b1, 0, none⟩), .pointer (some ⟨b1, 1, none⟩), .int .i64 (w64 (s3.vat + 1)), .int .i64 (w64 ((w64 (s3.vat + 1)) - 1)), .pointer (some ⟨b1, 0, none⟩), .pointer (some ⟨b1, 0, none⟩), .pointer (some ⟨b1, 0, none⟩), .slice A4 s3.L.length c5, .int .i64 (s3.L.length : Int), .int .i64 (Int.tmod (w64 ((w64 (s3.vat + 1)) - 1)) (s3.L.length : Int)), .pointer (some ⟨b1, 0, none⟩), .pointer (some ⟨b1, 0, none⟩), .pointer (some ⟨b1, 1, none⟩), .int .i64 (w64 (s3.vat + 1)), .int .i64 (w64 ((w64 (s3.vat + 1)) - 1)), .pointer (some ⟨b1, 0, none⟩), .pointer (some ⟨b1, 0, none⟩), .pointer (some ⟨b1, 0, none⟩), .slice A4 s3.L.length c5, .int .i64 (s3.L.length : Int), .int .i64 (w64 (Int.tdiv (w64 ((w64 (s3.vat + 1)) - 1)) (s3.L.length : Int))), undef, undef, undef, undef, undef, undef, undef, undef, undef, undef, undef, undef, undef, undef, undef], []⟩) rfl (by kernel_rfl) (by kernel_rfl) (by kernel_rfl) hnp (Sg.g0 (Sx.of [] (FM.le.refl _) HS36)) ?_
    refine doneG (by kernel_rfl) ?_ _
    refine hK34 _ _ ?_
    refine wp_seq_k (fun K37 hK38 => ?_)
    refine wp_region_lit ?_
    refine seqL3 (by kernel_rfl) ?_
    refine seqK rfl (does_run (run_load rfl Try.underlying30 rfl (by kernel_rfl : _ = Value.pointer (some ⟨b1, 0, none⟩)) (HS36.cell 0)) ?_)
    have hq_ := guard_some h; clear h; obtain ⟨c39, h⟩ := hq_
    have c39 : 0 ≤ (Int.tmod (w64 ((w64 (s3.vat + 1)) - 1)) (s3.L.length : Int)) := c39
    have hq_ := guard_some h; clear h; obtain ⟨c40, h⟩ := hq_
    have c40 : (Int.tmod (w64 ((w64 (s3.vat + 1)) - 1)) (s3.L.length : Int)) < (s3.L.length : Int) := c40
    obtain ⟨b44, of45, cs41, rfl, hr42, hc43⟩ := HR6.at (i := Int.tmod (w64 ((w64 (s3.vat + 1)) - 1)) (s3.L.length : Int)) c39 c40
    obtain rfl := hr42
    refine seqL1 (by kernel_rfl) ?_
    refine seqK rfl (does_run (run_index (sz := 1) rfl Try.underlying30 (by kernel_rfl) (by kernel_rfl : _ = Value.slice (some ⟨b44, of45, none⟩) s3.L.length c5) (by kernel_rfl : _ = Value.int .i64 (Int.tmod (w64 ((w64 (s3.vat + 1)) - 1)) (s3.L.length : Int))) c39 c40 W35) ?_)
    refine seqK rfl (does_run (run_load rfl Try.underlying3 rfl (by kernel_rfl : _ = Value.pointer (some ⟨b44, of45 + (Int.tmod (w64 ((w64 (s3.vat + 1)) - 1)) (s3.L.length : Int) : Int).toNat * 1, none⟩)) ((hc43 (FM.le.refl _) HS36) 0 (by decide))) ?_)
    have hq_ := bind_some h; clear h; obtain ⟨vt46, hc47, h⟩ := hq_
    refine seqK rfl (does_call (f := 15) (args := #[.int .i64 (rd s3.L (Int.tmod (w64 ((w64 (s3.vat + 1)) - 1)) (s3.L.length : Int))), .int .i64 1073741824]) (by kernel_rfl) (spymake_Below.calls k (rd s3.L (Int.tmod (w64 ((w64 (s3.vat + 1)) - 1)) (s3.L.length : Int))) 1073741824 HS36 vt46 hc47) ?_)
    rintro _ W50 ⟨f48, rfl, L49, HS51⟩
    refine ⟨_, rfl, ?_⟩
    have hq_ := bind_some h; clear h; obtain ⟨vt52, hc53, h⟩ := hq_
    refine seqL6 (by kernel_rfl) ?_
    refine seqK rfl (does_call (f := 15) (args := #[.int .i64 (w64 (vt46 + (w64 ((w64 (Int.tdiv (w64 ((w64 (s3.vat + 1)) - 1)) (s3.L.length : Int))) * (w64 (7919 + (Int.tmod (w64 ((w64 (s3.vat + 1)) - 1)) (s3.L.length : Int)))))))), .int .i64 n7]) (by kernel_rfl) (spymake_Below.calls k (w64 (vt46 + (w64 ((w64 (Int.tdiv (w64 ((w64 (s3.vat + 1)) - 1)) (s3.L.length : Int))) * (w64 (7919 + (Int.tmod (w64 ((w64 (s3.vat + 1)) - 1)) (s3.L.length : Int)))))))) n7 HS51 vt52 hc53) ?_)
    rintro _ W56 ⟨f54, rfl, L55, HS57⟩
    refine ⟨_, rfl, ?_⟩
    refine seqS1 (a' := ⟨#[.pointer (some ⟨b1, 0, none⟩), .int .i64 n7, undef, undef, .int .i64 vt52, .int .i64 (Int.tmod (w64 ((w64 (s3.vat + 1)) - 1)) (s3.L.length : Int)), .int .i64 (w64 (Int.tdiv (w64 ((w64 (s3.vat + 1)) - 1)) (s3.L.length : Int))), .pointer (some ⟨b1, 0, none⟩), .pointer (some ⟨b1, 0, none⟩), .pointer (some ⟨b1, 1, none⟩), .int .i64 s3.vat, .int .i64 (w64 (s3.vat + 1)), .pointer (some ⟨b1, 0, none⟩), .pointer (some ⟨b1, 1, none⟩), .pointer (some ⟨b1, 0, none⟩), .pointer (some ⟨b1, 0, none⟩), .pointer (some ⟨b1, 0, none⟩), .slice (some ⟨b44, of45, none⟩) s3.L.length c5, .int .i64 (s3.L.length : Int), .bool false, undef, undef, undef, undef, undef, undef, undef, .pointer (some ⟨b1, 0, none⟩), .pointer (some ⟨b1, 0, none⟩), .pointer (some ⟨b1, 1, none⟩), .int .i64 (w64 (s3.vat + 1)), .int .i64 (w64 ((w64 (s3.vat + 1)) - 1)), .pointer (some ⟨b1, 0, none⟩), .pointer (some ⟨b1, 0, none⟩), .pointer (some ⟨b1, 0, none⟩), .slice (some ⟨b44, of45, none⟩) s3.L.length c5, .int .i64 (s3.L.length : Int), .int .i64 (Int.tmod (w64 ((w64 (s3.vat + 1)) - 1)) (s3.L.length : Int)), .pointer (some ⟨b1, 0, none⟩), .pointer (some ⟨b1, 0, none⟩), .pointer (some ⟨b1, 1, none⟩), .int .i64 (w64 (s3.vat + 1)), .int .i64 (w64 ((w64 (s3.vat + 1)) - 1)), .pointer (some ⟨b1, 0, none⟩), .pointer (some ⟨b1, 0, none⟩), .pointer (some ⟨b1, 0, none⟩), .slice (some ⟨b44, of45, none⟩) s3.L.length c5, .int .i64 (s3.L.length : Int), .int .i64 (w64 (Int.tdiv (w64 ((w64 (s3.vat + 1)) - 1)) (s3.L.length : Int))), .pointer (some ⟨b1, 0, none⟩), .pointer (some ⟨b1, 0, none⟩), .pointer (some ⟨b1, 0, none⟩), .slice (some ⟨b44, of45, none⟩) s3.L.length c5, .int .i64 (Int.tmod (w64 ((w64 (s3.vat + 1)) - 1)) (s3.L.length : Int)), .pointer (some ⟨b44, of45 + (Int.tmod (w64 ((w64 (s3.vat + 1)) - 1)) (s3.L.length : Int) : Int).toNat * 1, none⟩), .int .i64 (rd s3.L (Int.tmod (w64 ((w64 (s3.vat + 1)) - 1)) (s3.L.length : Int))), .int .i64 vt46, .int .i64 (w64 (Int.tdiv (w64 ((w64 (s3.vat + 1)) - 1)) (s3.L.length : Int))), .int .i64 (Int.tmod (w64 ((w64 (s3.vat + 1)) - 1)) (s3.L.length : Int)), .int .i64 (w64 (7919 + (Int.tmod (w64 ((w64 (s3.vat + 1)) - 1)) (s3.L.length : Int)))), .int .i64 (w64 ((w64 (Int.tdiv (w64 ((w64 (s3.vat + 1)) - 1)) (s3.L.length : Int))) * (w64 (7919 + (Int.tmod (w64 ((w64 (s3.vat + 1)) - 1)) (s3.L.length : Int)))))), .int .i64 (w64 (vt46 + (w64 ((w64 (Int.tdiv (w64 ((w64 (s3.vat + 1)) - 1)) (s3.L.length : Int))) * (w64 (7919 + (Int.tmod (w64 ((w64 (s3.vat + 1)) - 1)) (s3.L.length : Int)))))))), .int .i64 n7, .int .i64 vt52], []⟩) (by kernel_rfl) ?_
    refine wpList_nil ?_
    refine hK38 _ _ ?_
    refine wp_ret ?_
    refine hret _ _ ?_
    refine ends_still (v := Value.int .i64 vt52) (by kernel_rfl) (by kernel_rfl) ?_
    injection h with h
    injection h with h0_ h
    subst h0_ h
    exact ⟨f54, rfl, (L49.trans L55), HS57⟩

set_option maxRecDepth 100000 in
set_option maxHeartbeats 4000000 in
theorem spymake_Stream_Range.calls (k : Nat) (b1 : Nat) (A4 : Option Addr) (c5 : Nat) (s3 : S_Stream) (low7 : Int) (high8 : Int) {t w : World} {f : FM} {H : List Seg} (HS : St t w f ([(b1, .cells #[.slice A4 s3.L.length c5, .int .i64 s3.vat] 33 (0, 0))] :: H)) (HR6 : SlR (tInt .i64) f A4 c5 s3.L) (r1 : Int) (r2 : Int) (h : spymake_Stream_Range k s3 low7 high8 = some (r1, r2)) :
    Calls Try.prog 14 #[.pointer (some ⟨b1, 0, none⟩), .int .i64 low7, .int .i64 high8] w (fun e w' => ∃ (g : FM), e = .returned (Value.int .i64 r1) ∧ FM.le f g ∧ St t w' g ([(b1, .cells #[.slice A4 s3.L.length c5, .int .i64 r2] 33 (0, 0))] :: H)) := by
  unfold spymake_Stream_Range at h
  refine enter Try.func14 rfl (tm := #[.pointer (some ⟨b1, 0, none⟩), .int .i64 low7, .int .i64 high8, undef, undef, undef, undef, undef, undef, undef, undef, undef, undef, undef, undef, undef, undef, undef, undef]) (by kernel_rfl) ?_
  intro B hret hnor hnp
  refine wp_seq_k (fun K9 hK10 => ?_)
  refine wp_region_lit ?_
  refine seqS1 (a' := ⟨#[.pointer (some ⟨b1, 0, none⟩), .int .i64 low7, .int .i64 high8, undef, undef, undef, .int .i64 0, undef, undef, undef, undef, undef, undef, undef, undef, undef, undef, undef, undef], []⟩) (by kernel_rfl) ?_
  refine wpList_nil ?_
  refine hK10 _ _ ?_
  refine wp_seq_k (fun K11 hK12 => ?_)
  refine wp_seq_k (fun K13 hK14 => ?_)
  refine wp_region_lit ?_
  refine seqS3 (a' := ⟨#[.pointer (some ⟨b1, 0, none⟩), .int .i64 low7, .int .i64 high8, undef, undef, undef, .int .i64 0, .int .i64 high8, .int .i64 low7, .bool (decide (high8 < low7)), undef, undef, undef, undef, undef, undef, undef, undef, undef], []⟩) (by kernel_rfl) ?_
  refine wpList_nil ?_
  refine hK14 _ _ ?_
  have hq_ := ite_some h; clear h; rcases hq_ with ⟨c16, h⟩ | ⟨c16, h⟩
  · have c16 : high8 < low7 := c16
    refine wpRwI 9 (x := (decide (high8 < low7))) (v := true) (by kernel_rfl) (decide_eq_true c16) ?_
    refine condT (by kernel_rfl) ?_
    refine wp_seq_k (fun K17 hK18 => ?_)
    refine wp_region_lit ?_
    refine seqS2 (a' := ⟨#[.pointer (some ⟨b1, 0, none⟩), .int .i64 low7, .int .i64 high8, undef, undef, undef, .int .i64 low7, .int .i64 high8, .int .i64 low7, .bool true, .int .i64 low7, undef, undef, undef, undef, undef, undef, undef, undef], []⟩) (by kernel_rfl) ?_
    refine wpList_nil ?_
    refine hK18 _ _ ?_
    refine wp_ret ?_
    refine hret _ _ ?_
    refine ends_still (v := Value.int .i64 low7) (by kernel_rfl) (by kernel_rfl) ?_
    injection h with h
    injection h with h0_ h
    subst h0_ h
    exact ⟨f, rfl, FM.le.refl _, HS⟩
  · have c16 : ¬ (high8 < low7) := c16
    refine wpRwI 9 (x := (decide (high8 < low7))) (v := false) (by kernel_rfl) (decide_eq_false c16) ?_
    refine condF (by kernel_rfl) ?_
    refine wp_skip ?_
    refine hK12 _ _ ?_
    refine wp_seq_k (fun K19 hK20 => ?_)
    refine wp_region_lit ?_
    have hq_ := bind_some h; clear h; obtain ⟨⟨vt21, vt22⟩, hc23, h⟩ := hq_
    refine seqL6 (by kernel_rfl) ?_
    refine seqK rfl (does_call (f := 30) (args := #[.pointer (some ⟨b1, 0, none⟩), .int .i64 (w64 ((w64 (high8 - low7)) + 1))]) (by kernel_rfl) (spymake_Stream_Next.calls k b1 A4 c5 s3 (w64 ((w64 (high8 - low7)) + 1)) HS HR6 vt21 vt22 hc23) ?_)
    rintro _ W26 ⟨f24, rfl, L25, HS27⟩
    refine ⟨_, rfl, ?_⟩
    refine seqS2 (a' := ⟨#[.pointer (some ⟨b1, 0, none⟩), .int .i64 low7, .int .i64 high8, undef, undef, undef, .int .i64 (w64 (low7 + vt21)), .int .i64 high8, .int .i64 low7, .bool false, undef, .int .i64 low7, .pointer (some ⟨b1, 0, none⟩), .int .i64 high8, .int .i64 low7, .int .i64 (w64 (high8 - low7)), .int .i64 (w64 ((w64 (high8 - low7)) + 1)), .int .i64 vt21, .int .i64 (w64 (low7 + vt21))], []⟩) (by kernel_rfl) ?_
    refine wpList_nil ?_
    refine hK20 _ _ ?_
    refine wp_ret ?_
    refine hret _ _ ?_
    refine ends_still (v := Value.int .i64 (w64 (low7 + vt21))) (by kernel_rfl) (by kernel_rfl) ?_
    injection h with h
    injection h with h0_ h
    subst h0_ h
    exact ⟨f24, rfl, L25, HS27⟩

set_option maxRecDepth 100000 in
set_option maxHeartbeats 4000000 in
theorem spymake_Stream_Place.calls (k : Nat) (b1 : Nat) (A4 : Option Addr) (c5 : Nat) (s3 : S_Stream) (dist7 : Int) {t w : World} {f : FM} {H : List Seg} (HS : St t w f ([(b1, .cells #[.slice A4 s3.L.length c5, .int .i64 s3.vat] 33 (0, 0))] :: H)) (HR6 : SlR (tInt .i64) f A4 c5 s3.L) (r1 : S_Vec) (r2 : Int) (h : spymake_Stream_Place k s3 dist7 = some (r1, r2)) :
    Calls Try.prog 13 #[.pointer (some ⟨b1, 0, none⟩), .int .i64 dist7] w (fun e w' => ∃ (g : FM), e = .returned (Value.agg #[.int .i64 r1.X, .int .i64 r1.Y, .int .i64 r1.Z]) ∧ FM.le f g ∧ St t w' g ([(b1, .cells #[.slice A4 s3.L.length c5, .int .i64 r2] 33 (0, 0))] :: H)) := by
  unfold spymake_Stream_Place at h
  refine enter Try.func13 rfl (tm := #[.pointer (some ⟨b1, 0, none⟩), .int .i64 dist7, undef, undef, undef, undef, undef, undef, undef, undef, undef, undef, undef, undef, undef, undef, undef, undef, undef, undef, undef, undef, undef, undef, undef]) (by kernel_rfl) ?_
  intro B hret hnor hnp
  refine wp_seq_k (fun K8 hK9 => ?_)
  refine wp_region_lit ?_
  refine seqK rfl (does_alloc (z := Value.agg #[.int .i64 0, .int .i64 0, .int .i64 0]) (cs := #[.int .i64 0, .int .i64 0, .int .i64 0]) rfl (by kernel_rfl) rfl HS ?_)
  intro b10 W11 HS12
  refine wpList_nil ?_
  refine hK9 _ _ ?_
  refine wp_seq_k (fun K14 hK15 => ?_)
  refine wp_region_lit ?_
  refine seqS3 (a' := ⟨#[.pointer (some ⟨b1, 0, none⟩), .int .i64 dist7, undef, undef, .pointer (some ⟨b10, 0, none⟩), .int .i64 (w64 (dist7 * 1048576)), .int .i64 dist7, .int .i64 (w64 (dist7 * 1048576)), undef, undef, undef, undef, undef, undef, undef, undef, undef, undef, undef, undef, undef, undef, undef, undef, undef], []⟩) (by kernel_rfl) ?_
  refine wpList_nil ?_
  refine hK15 _ _ ?_
  refine wp_seq_k (fun K16 hK17 => ?_)
  refine wp_region_lit ?_
  have HS18 := HS12.u1
  have hq_ := bind_some h; clear h; obtain ⟨⟨vt19, vt20⟩, hc21, h⟩ := hq_
  refine seqL4 (by kernel_rfl) ?_
  refine seqK rfl (does_call (f := 14) (args := #[.pointer (some ⟨b1, 0, none⟩), .int .i64 (w64 (0 - (w64 (dist7 * 1048576)))), .int .i64 (w64 (dist7 * 1048576))]) (by kernel_rfl) (spymake_Stream_Range.calls k b1 A4 c5 s3 (w64 (0 - (w64 (dist7 * 1048576)))) (w64 (dist7 * 1048576)) HS18 HR6 vt19 vt20 hc21) ?_)
  rintro _ W24 ⟨f22, rfl, L23, HS25⟩
  refine ⟨_, rfl, ?_⟩
  have hq_ := bind_some h; clear h; obtain ⟨⟨vt26, vt27⟩, hc28, h⟩ := hq_
  refine seqL4 (by kernel_rfl) ?_
  refine seqK rfl (does_call (f := 14) (args := #[.pointer (some ⟨b1, 0, none⟩), .int .i64 (w64 (0 - (w64 (dist7 * 1048576)))), .int .i64 (w64 (dist7 * 1048576))]) (by kernel_rfl) (spymake_Stream_Range.calls k b1 A4 c5 (⟨s3.L, vt20⟩ : S_Stream) (w64 (0 - (w64 (dist7 * 1048576)))) (w64 (dist7 * 1048576)) HS25 (HR6.mono L23) vt26 vt27 hc28) ?_)
  rintro _ W31 ⟨f29, rfl, L30, HS32⟩
  refine ⟨_, rfl, ?_⟩
  have hq_ := bind_some h; clear h; obtain ⟨⟨vt33, vt34⟩, hc35, h⟩ := hq_
  refine seqL4 (by kernel_rfl) ?_
  refine seqK rfl (does_call (f := 14) (args := #[.pointer (some ⟨b1, 0, none⟩), .int .i64 (w64 (0 - (w64 (dist7 * 1048576)))), .int .i64 (w64 (dist7 * 1048576))]) (by kernel_rfl) (spymake_Stream_Range.calls k b1 A4 c5 (⟨s3.L, vt27⟩ : S_Stream) (w64 (0 - (w64 (dist7 * 1048576)))) (w64 (dist7 * 1048576)) HS32 (HR6.mono (L23.trans L30)) vt33 vt34 hc35) ?_)
  rintro _ W38 ⟨f36, rfl, L37, HS39⟩
  refine ⟨_, rfl, ?_⟩
  have HS40 := HS39.u1
  refine seqL2 (by kernel_rfl) ?_
  refine seqK rfl (does_store (n := 3) (vs := [.int .i64 vt19, .int .i64 vt26, .int .i64 (w64 (Int.tdiv vt33 4))]) (cs' := #[.int .i64 vt19, .int .i64 vt26, .int .i64 (w64 (Int.tdiv vt33 4))]) rfl (by kernel_rfl) (by kernel_rfl : _ = Value.pointer (some ⟨b10, 0, none⟩)) (by kernel_rfl : _ = Value.agg #[.int .i64 vt19, .int .i64 vt26, .int .i64 (w64 (Int.tdiv vt33 4))]) rfl rfl (by intro u_ hu_; simp only [List.mem_cons, List.not_mem_nil, or_false] at hu_; rcases hu_ with rfl | rfl | rfl <;> rfl) HS40 (Nat.le_of_ble_eq_true rfl) (by kernel_rfl) ?_)
  intro W41 HS42
  refine wpList_nil ?_
  refine hK17 _ _ ?_
  refine wp_ret ?_
  refine hret _ _ ?_
  refine ends (v := Value.agg #[.int .i64 vt19, .int .i64 vt26, .int .i64 (w64 (Int.tdiv vt33 4))]) (results1 (q1 := .cell 4 23) (by kernel_rfl) (resN (n := 3) (cs := [.int .i64 vt19, .int .i64 vt26, .int .i64 (w64 (Int.tdiv vt33 4))]) (by kernel_rfl : _ = Value.pointer (some ⟨b10, 0, none⟩)) Try.underlying23 rfl (by kernel_rfl) rfl (HS42.cells 0 3 _ rfl))) (by kernel_rfl) ?_
  have HS43 := HS42.drop
  injection h with h
  injection h with h0_ h
  subst h0_ h
  exact ⟨f36, rfl, (L23.trans (L30.trans L37)), HS43⟩

set_option maxRecDepth 100000 in
set_option maxHeartbeats 4000000 in
theorem spymake_within_1.calls (k : Nat)  (c1 : Int) {t w : World} {f : FM} {H : List Seg} (HS : St t w f (H)) (r1 : Int) (h : spymake_within_1 k c1 = some r1) :
    Calls Try.prog 47 #[.int .i64 c1] w (fun e w' => ∃ (g : FM), e = .returned (Value.int .i64 r1) ∧ FM.le f g ∧ St t w' g (H)) := by
  unfold spymake_within_1 at h
  refine enter Try.func47 rfl (tm := #[.int .i64 c1, undef, undef, undef, undef, undef]) (by kernel_rfl) ?_
  intro B hret hnor hnp
  refine wp_seq_k (fun K2 hK3 => ?_)
  refine wp_region_lit ?_
  refine seqS1 (a' := ⟨#[.int .i64 c1, undef, .int .i64 0, undef, undef, undef], []⟩) (by kernel_rfl) ?_
  refine wpList_nil ?_
  refine hK3 _ _ ?_
  refine wp_seq_k (fun K4 hK5 => ?_)
  refine wp_region_lit ?_
  refine seqS4 (a' := ⟨#[.int .i64 c1, undef, .int .i64 (mx (-4194304) (mn 4194304 c1)), .int .i64 c1, .int .i64 (mn 4194304 c1), .int .i64 (mx (-4194304) (mn 4194304 c1))], []⟩) (by kernel_rfl) ?_
  refine wpList_nil ?_
  refine hK5 _ _ ?_
  refine wp_ret ?_
  refine hret _ _ ?_
  refine ends_still (v := Value.int .i64 (mx (-4194304) (mn 4194304 c1))) (by kernel_rfl) (by kernel_rfl) ?_
  injection h with h
  subst h
  exact ⟨f, rfl, FM.le.refl _, HS⟩

set_option maxRecDepth 100000 in
set_option maxHeartbeats 4000000 in
theorem spymake_within.calls (k : Nat)  (v1 : S_Vec) {t w : World} {f : FM} {H : List Seg} (HS : St t w f (H)) (r1 : S_Vec) (h : spymake_within k v1 = some r1) :
    Calls Try.prog 31 #[.agg #[.int .i64 v1.X, .int .i64 v1.Y, .int .i64 v1.Z]] w (fun e w' => ∃ (g : FM), e = .returned (Value.agg #[.int .i64 r1.X, .int .i64 r1.Y, .int .i64 r1.Z]) ∧ FM.le f g ∧ St t w' g (H)) := by
  unfold spymake_within at h
  refine enter Try.func31 rfl (tm := #[.agg #[.int .i64 v1.X, .int .i64 v1.Y, .int .i64 v1.Z], undef, undef, undef, undef, undef, undef, undef, undef, undef, undef, undef, undef, undef, undef, undef, undef]) (by kernel_rfl) ?_
  intro B hret hnor hnp
  refine wp_seq_k (fun K2 hK3 => ?_)
  refine wp_region_lit ?_
  refine seqK rfl (does_box (cs := #[.int .i64 v1.X, .int .i64 v1.Y, .int .i64 v1.Z]) rfl (by kernel_rfl : _ = Value.agg #[.int .i64 v1.X, .int .i64 v1.Y, .int .i64 v1.Z]) rfl HS ?_)
  intro b4 W5 HS6
  refine seqK rfl (does_alloc (z := Value.agg #[.int .i64 0, .int .i64 0, .int .i64 0]) (cs := #[.int .i64 0, .int .i64 0, .int .i64 0]) rfl (by kernel_rfl) rfl HS6 ?_)
  intro b8 W9 HS10
  refine wpList_nil ?_
  refine hK3 _ _ ?_
  refine wp_seq_k (fun K12 hK13 => ?_)
  refine wp_region_lit ?_
  refine seqS1 (a' := ⟨#[.agg #[.int .i64 v1.X, .int .i64 v1.Y, .int .i64 v1.Z], .pointer (some ⟨b4, 0, none⟩), .pointer (some ⟨b8, 0, none⟩), .func (.func 47) #[] #[], undef, undef, undef, undef, undef, undef, undef, undef, undef, undef, undef, undef, undef], []⟩) (by kernel_rfl) ?_
  refine wpList_nil ?_
  refine hK13 _ _ ?_
  refine wp_seq_k (fun K14 hK15 => ?_)
  have HS16 := HS10.u1
  have HS17 := HS16.u1
  refine heldG (S := Sg t f ([(b4, .cells #[.int .i64 v1.X, .int .i64 v1.Y, .int .i64 v1.Z] 23 (0, 0))] :: H) [(13, [(b8, .cells #[.int .i64 0, .int .i64 0, .int .i64 0] 23 (0, 0))])]) (n := 14) (by kernel_rfl) rfl HS17 ?_
  intro W18 HS19
  refine takeG [0, 1] (n := 14) (fuel := 12) (l' := #[true, true, false, false, false, false, false, false, false, false, false, false, false, false]) (a' := ⟨#[.agg #[.int .i64 v1.X, .int .i64 v1.Y, .int .i64 v1.Z], .pointer (some ⟨b4, 0, none⟩), .pointer (some ⟨b8, 0, none⟩), .func (.func 47) #[] #[], .func (.func 47) #[] #[], .pointer (some ⟨b4, 0, none⟩), undef, undef, undef, undef, undef, undef, undef, undef, undef, undef, undef], []⟩) rfl (by kernel_rfl) (by kernel_rfl) (by kernel_rfl) hnp (Sg.g1 (Sx.of [[(b8, .cells #[.int .i64 0, .int .i64 0, .int .i64 0] 23 (0, 0))]] (FM.le.refl _) HS19) (fun _ => St.only [] HS19 (FM.le.refl _))) ?_
  refine takeGQ 2 [] rfl (by kernel_rfl) (by kernel_rfl) (by kernel_rfl) (by kernel_rfl) (by kernel_rfl) (by kernel_rfl) hnp (Sg.g1 (Sx.of [[(b8, .cells #[.int .i64 0, .int .i64 0, .int .i64 0] 23 (0, 0))]] (FM.le.refl _) HS19) (fun _ => St.only [] HS19 (FM.le.refl _))) (fun w_ hw_ => by obtain ⟨g_, hl_, hS_⟩ := hw_.st; exact run_load rfl Try.underlying2 rfl (by kernel_rfl : _ = Value.pointer (some ⟨b4, 0, none⟩)) (hS_.cell 0)) ?_
  refine takeG [4, 5] (n := 11) (fuel := 9) (l' := #[true, true, true, false, true, true, false, false, false, false, false, false, false, false]) (a' := ⟨#[.agg #[.int .i64 v1.X, .int .i64 v1.Y, .int .i64 v1.Z], .pointer (some ⟨b4, 0, none⟩), .pointer (some ⟨b8, 0, none⟩), .func (.func 47) #[] #[], .func (.func 47) #[] #[], .pointer (some ⟨b4, 0, none⟩), .int .i64 v1.X, undef, .func (.func 47) #[] #[], .pointer (some ⟨b4, 1, none⟩), undef, undef, undef, undef, undef, undef, undef], []⟩) rfl (by kernel_rfl) (by kernel_rfl) (by kernel_rfl) hnp (Sg.g1 (Sx.of [[(b8, .cells #[.int .i64 0, .int .i64 0, .int .i64 0] 23 (0, 0))]] (FM.le.refl _) HS19) (fun _ => St.only [] HS19 (FM.le.refl _))) ?_
  refine takeGQ 6 [] rfl (by kernel_rfl) (by kernel_rfl) (by kernel_rfl) (by kernel_rfl) (by kernel_rfl) (by kernel_rfl) hnp (Sg.g1 (Sx.of [[(b8, .cells #[.int .i64 0, .int .i64 0, .int .i64 0] 23 (0, 0))]] (FM.le.refl _) HS19) (fun _ => St.only [] HS19 (FM.le.refl _))) (fun w_ hw_ => by obtain ⟨g_, hl_, hS_⟩ := hw_.st; exact run_load rfl Try.underlying2 rfl (by kernel_rfl : _ = Value.pointer (some ⟨b4, 1, none⟩)) (hS_.cell 1)) ?_
  refine takeG [8, 9] (n := 8) (fuel := 6) (l' := #[true, true, true, false, true, true, true, false, true, true, false, false, false, false]) (a' := ⟨#[.agg #[.int .i64 v1.X, .int .i64 v1.Y, .int .i64 v1.Z], .pointer (some ⟨b4, 0, none⟩), .pointer (some ⟨b8, 0, none⟩), .func (.func 47) #[] #[], .func (.func 47) #[] #[], .pointer (some ⟨b4, 0, none⟩), .int .i64 v1.X, undef, .func (.func 47) #[] #[], .pointer (some ⟨b4, 1, none⟩), .int .i64 v1.Y, undef, .func (.func 47) #[] #[], .pointer (some ⟨b4, 2, none⟩), undef, undef, undef], []⟩) rfl (by kernel_rfl) (by kernel_rfl) (by kernel_rfl) hnp (Sg.g1 (Sx.of [[(b8, .cells #[.int .i64 0, .int .i64 0, .int .i64 0] 23 (0, 0))]] (FM.le.refl _) HS19) (fun _ => St.only [] HS19 (FM.le.refl _))) ?_
  refine takeGQ 10 [] rfl (by kernel_rfl) (by kernel_rfl) (by kernel_rfl) (by kernel_rfl) (by kernel_rfl) (by kernel_rfl) hnp (Sg.g1 (Sx.of [[(b8, .cells #[.int .i64 0, .int .i64 0, .int .i64 0] 23 (0, 0))]] (FM.le.refl _) HS19) (fun _ => St.only [] HS19 (FM.le.refl _))) (fun w_ hw_ => by obtain ⟨g_, hl_, hS_⟩ := hw_.st; exact run_load rfl Try.underlying2 rfl (by kernel_rfl : _ = Value.pointer (some ⟨b4, 2, none⟩)) (hS_.cell 2)) ?_
  have hq_ := bind_some h; clear h; obtain ⟨vt20, hc21, h⟩ := hq_
  refine takeGE 3 (by kernel_rfl) rfl (by kernel_rfl) (does_call (f := 47) (args := #[.int .i64 v1.X]) (by kernel_rfl) (spymake_within_1.calls k v1.X HS19 vt20 hc21) ?_)
  rintro _ W24 ⟨f22, rfl, L23, HS25⟩
  refine ⟨_, rfl, ?_⟩
  refine ⟨(Sg.g1 (Sx.of [[(b8, .cells #[.int .i64 0, .int .i64 0, .int .i64 0] 23 (0, 0))]] L23 HS25) (fun _ => St.only [] HS25 L23)), ?_⟩
  have hq_ := bind_some h; clear h; obtain ⟨vt26, hc27, h⟩ := hq_
  refine takeGE 7 (by kernel_rfl) rfl (by kernel_rfl) (does_call (f := 47) (args := #[.int .i64 v1.Y]) (by kernel_rfl) (spymake_within_1.calls k v1.Y HS25 vt26 hc27) ?_)
  rintro _ W30 ⟨f28, rfl, L29, HS31⟩
  refine ⟨_, rfl, ?_⟩
  refine ⟨(Sg.g1 (Sx.of [[(b8, .cells #[.int .i64 0, .int .i64 0, .int .i64 0] 23 (0, 0))]] (L23.trans L29) HS31) (fun _ => St.only [] HS31 (L23.trans L29))), ?_⟩
  have hq_ := bind_some h; clear h; obtain ⟨vt32, hc33, h⟩ := hq_
  refine takeGE 11 (by kernel_rfl) rfl (by kernel_rfl) (does_call (f := 47) (args := #[.int .i64 v1.Z]) (by kernel_rfl) (spymake_within_1.calls k v1.Z HS31 vt32 hc33) ?_)
  rintro _ W36 ⟨f34, rfl, L35, HS37⟩
  refine ⟨_, rfl, ?_⟩
  refine ⟨(Sg.g1 (Sx.of [[(b8, .cells #[.int .i64 0, .int .i64 0, .int .i64 0] 23 (0, 0))]] (L23.trans (L29.trans L35)) HS37) (fun _ => St.only [] HS37 (L23.trans (L29.trans L35)))), ?_⟩
  refine takeG [12] (n := 2) (fuel := 1) (l' := #[true, true, true, true, true, true, true, true, true, true, true, true, true, false]) (a' := ⟨#[.agg #[.int .i64 v1.X, .int .i64 v1.Y, .int .i64 v1.Z], .pointer (some ⟨b4, 0, none⟩), .pointer (some ⟨b8, 0, none⟩), .func (.func 47) #[] #[], .func (.func 47) #[] #[], .pointer (some ⟨b4, 0, none⟩), .int .i64 v1.X, .int .i64 vt20, .func (.func 47) #[] #[], .pointer (some ⟨b4, 1, none⟩), .int .i64 v1.Y, .int .i64 vt26, .func (.func 47) #[] #[], .pointer (some ⟨b4, 2, none⟩), .int .i64 v1.Z, .int .i64 vt32, .agg #[.int .i64 vt20, .int .i64 vt26, .int .i64 vt32]], []⟩) rfl (by kernel_rfl) (by kernel_rfl) (by kernel_rfl) hnp (Sg.g1 (Sx.of [[(b8, .cells #[.int .i64 0, .int .i64 0, .int .i64 0] 23 (0, 0))]] (L23.trans (L29.trans L35)) HS37) (fun _ => St.only [] HS37 (L23.trans (L29.trans L35)))) ?_
  refine takeGE 13 (by kernel_rfl) rfl (by kernel_rfl) (does_store (n := 3) (vs := [.int .i64 vt20, .int .i64 vt26, .int .i64 vt32]) (cs' := #[.int .i64 vt20, .int .i64 vt26, .int .i64 vt32]) rfl (by kernel_rfl) (by kernel_rfl : _ = Value.pointer (some ⟨b8, 0, none⟩)) (by kernel_rfl : _ = Value.agg #[.int .i64 vt20, .int .i64 vt26, .int .i64 vt32]) rfl rfl (by intro u_ hu_; simp only [List.mem_cons, List.not_mem_nil, or_false] at hu_; rcases hu_ with rfl | rfl | rfl <;> rfl) HS37 (Nat.le_of_ble_eq_true rfl) (by kernel_rfl) ?_)
  intro W38 HS39
  refine ⟨(Sg.g1 (Sx.of [[(b8, .cells #[.int .i64 vt20, .int .i64 vt26, .int .i64 vt32] 23 (0, 0))]] (L23.trans (L29.trans L35)) HS39) (fun hl_ => Bool.noConfusion (show true = false from hl_))), ?_⟩
  refine doneG (by kernel_rfl) ?_ _
  refine hK15 _ _ ?_
  refine wp_ret ?_
  refine hret _ _ ?_
  refine ends (v := Value.agg #[.int .i64 vt20, .int .i64 vt26, .int .i64 vt32]) (results1 (q1 := .cell 2 23) (by kernel_rfl) (resN (n := 3) (cs := [.int .i64 vt20, .int .i64 vt26, .int .i64 vt32]) (by kernel_rfl : _ = Value.pointer (some ⟨b8, 0, none⟩)) Try.underlying23 rfl (by kernel_rfl) rfl (HS39.cells 0 3 _ rfl))) (by kernel_rfl) ?_
  have HS40 := HS39.drop
  have HS41 := HS40.drop
  injection h with h
  subst h
  exact ⟨f34, rfl, (L23.trans (L29.trans L35)), HS41⟩

set_option maxRecDepth 100000 in
set_option maxHeartbeats 4000000 in
theorem spymake_Stream_rate.calls (k : Nat) (b1 : Nat) (A4 : Option Addr) (c5 : Nat) (s3 : S_Stream) {t w : World} {f : FM} {H : List Seg} (HS : St t w f ([(b1, .cells #[.slice A4 s3.L.length c5, .int .i64 s3.vat] 33 (0, 0))] :: H)) (HR6 : SlR (tInt .i64) f A4 c5 s3.L) (r1 : Int) (r2 : Int) (h : spymake_Stream_rate k s3 = some (r1, r2)) :
    Calls Try.prog 32 #[.pointer (some ⟨b1, 0, none⟩)] w (fun e w' => ∃ (g : FM), e = .returned (Value.int .i64 r1) ∧ FM.le f g ∧ St t w' g ([(b1, .cells #[.slice A4 s3.L.length c5, .int .i64 r2] 33 (0, 0))] :: H)) := by
  unfold spymake_Stream_rate at h
  refine enter Try.func32 rfl (tm := #[.pointer (some ⟨b1, 0, none⟩), undef, undef, undef, undef, undef, undef, undef, undef, undef]) (by kernel_rfl) ?_
  intro B hret hnor hnp
  refine wp_seq_k (fun K7 hK8 => ?_)
  refine wp_region_lit ?_
  refine seqS1 (a' := ⟨#[.pointer (some ⟨b1, 0, none⟩), undef, .int .i64 0, undef, undef, undef, undef, undef, undef, undef], []⟩) (by kernel_rfl) ?_
  refine wpList_nil ?_
  refine hK8 _ _ ?_
  refine wp_seq_k (fun K9 hK10 => ?_)
  refine wp_region_lit ?_
  refine seqL1 (by kernel_rfl) ?_
  refine seqK rfl (does_lit (e := (tInt .i64)) (E := 3) (vs := #[(0, Value.int .i64 50), (1, Value.int .i64 500), (2, Value.int .i64 5000), (3, Value.int .i64 5000), (4, Value.int .i64 40000), (5, Value.int .i64 1048577)]) (cs := #[.int .i64 50, .int .i64 500, .int .i64 5000, .int .i64 5000, .int .i64 40000, .int .i64 1048577]) (xs := ([50, 500, 5000, 5000, 40000, 1048577] : List Int)) rfl Try.underlying30 (by kernel_rfl) (by kernel_rfl) ⟨[.int .i64 50], _, rfl, rfl, ⟨[.int .i64 500], _, rfl, rfl, ⟨[.int .i64 5000], _, rfl, rfl, ⟨[.int .i64 5000], _, rfl, rfl, ⟨[.int .i64 40000], _, rfl, rfl, ⟨[.int .i64 1048577], _, rfl, rfl, rfl⟩⟩⟩⟩⟩⟩ rfl HS ?_ (by decide))
  intro b11 W12 s13 HS14 _ HO15
  have HS17 := HS14.u1
  have hq_ := bind_some h; clear h; obtain ⟨⟨vt18, vt19⟩, hc20, h⟩ := hq_
  refine seqL1 (by kernel_rfl) ?_
  refine seqK rfl (does_call (f := 30) (args := #[.pointer (some ⟨b1, 0, none⟩), .int .i64 6]) (by kernel_rfl) (spymake_Stream_Next.calls k b1 A4 c5 s3 6 HS17 HR6 vt18 vt19 hc20) ?_)
  rintro _ W23 ⟨f21, rfl, L22, HS24⟩
  refine ⟨_, rfl, ?_⟩
  have hq_ := guard_some h; clear h; obtain ⟨c25, h⟩ := hq_
  have c25 : 0 ≤ vt18 := c25
  have hq_ := guard_some h; clear h; obtain ⟨c26, h⟩ := hq_
  have c26 : vt18 < (([50, 500, 5000, 5000, 40000, 1048577] : List Int).length : Int) := c26
  obtain ⟨cs27, hr28, hc29⟩ := (HO15.mono L22).at' (i := vt18) c25 c26
  obtain rfl := hr28
  refine seqK rfl (does_run (run_index (sz := 1) rfl Try.underlying30 (by kernel_rfl) (by kernel_rfl : _ = Value.slice (some ⟨b11, 0, none⟩) ([50, 500, 5000, 5000, 40000, 1048577] : List Int).length 6) (by kernel_rfl : _ = Value.int .i64 vt18) c25 c26 W23) ?_)
  refine seqK rfl (does_run (run_load rfl Try.underlying3 rfl (by kernel_rfl : _ = Value.pointer (some ⟨b11, 0 + (vt18 : Int).toNat * 1, none⟩)) ((hc29 HS24.u1) 0 (by decide))) ?_)
  have hq_ := bind_some h; clear h; obtain ⟨⟨vt30, vt31⟩, hc32, h⟩ := hq_
  refine seqK rfl (does_call (f := 30) (args := #[.pointer (some ⟨b1, 0, none⟩), .int .i64 (rd ([50, 500, 5000, 5000, 40000, 1048577] : List Int) vt18)]) (by kernel_rfl) (spymake_Stream_Next.calls k b1 A4 c5 (⟨s3.L, vt19⟩ : S_Stream) (rd ([50, 500, 5000, 5000, 40000, 1048577] : List Int) vt18) HS24 (HR6.mono L22) vt30 vt31 hc32) ?_)
  rintro _ W35 ⟨f33, rfl, L34, HS36⟩
  refine ⟨_, rfl, ?_⟩
  refine seqS1 (a' := ⟨#[.pointer (some ⟨b1, 0, none⟩), undef, .int .i64 vt30, .pointer (some ⟨b1, 0, none⟩), .slice (some ⟨b11, 0, none⟩) ([50, 500, 5000, 5000, 40000, 1048577] : List Int).length 6, .pointer (some ⟨b1, 0, none⟩), .int .i64 vt18, .pointer (some ⟨b11, 0 + (vt18 : Int).toNat * 1, none⟩), .int .i64 (rd ([50, 500, 5000, 5000, 40000, 1048577] : List Int) vt18), .int .i64 vt30], []⟩) (by kernel_rfl) ?_
  refine wpList_nil ?_
  refine hK10 _ _ ?_
  refine wp_ret ?_
  refine hret _ _ ?_
  refine ends_still (v := Value.int .i64 vt30) (by kernel_rfl) (by kernel_rfl) ?_
  have HS37 := HS36.u1
  have HS38 := HS37.drop
  injection h with h
  injection h with h0_ h
  subst h0_ h
  exact ⟨f33, rfl, (L22.trans L34), HS38⟩

set_option maxRecDepth 100000 in
set_option maxHeartbeats 4000000 in
theorem spymake_Stream_Body.calls (k : Nat) (b1 : Nat) (A4 : Option Addr) (c5 : Nat) (s3 : S_Stream) (vid7 : Int) (here8 : S_Vec) {t w : World} {f : FM} {H : List Seg} (HS : St t w f ([(b1, .cells #[.slice A4 s3.L.length c5, .int .i64 s3.vat] 33 (0, 0))] :: H)) (HR6 : SlR (tInt .i64) f A4 c5 s3.L) (r1 : S_Body) (r2 : Int) (h : spymake_Stream_Body k s3 vid7 here8 = some (r1, r2)) :
    Calls Try.prog 12 #[.pointer (some ⟨b1, 0, none⟩), .int .i64 vid7, .agg #[.int .i64 here8.X, .int .i64 here8.Y, .int .i64 here8.Z]] w (fun e w' => ∃ (g : FM), e = .returned (Value.agg #[.int .i64 r1.ID, .int .i64 r1.Was.X, .int .i64 r1.Was.Y, .int .i64 r1.Was.Z, .int .i64 r1.Here.X, .int .i64 r1.Here.Y, .int .i64 r1.Here.Z, .int .i64 r1.Rate]) ∧ FM.le f g ∧ St t w' g ([(b1, .cells #[.slice A4 s3.L.length c5, .int .i64 r2] 33 (0, 0))] :: H)) := by
  unfold spymake_Stream_Body at h
  refine enter Try.func12 rfl (tm := #[.pointer (some ⟨b1, 0, none⟩), .int .i64 vid7, .agg #[.int .i64 here8.X, .int .i64 here8.Y, .int .i64 here8.Z], undef, undef, undef, undef, undef, undef, undef, undef, undef, undef, undef, undef, undef, undef, undef, undef, undef, undef, undef, undef, undef, undef, undef, undef, undef, undef, undef, undef, undef, undef, undef, undef, undef, undef, undef, undef, undef, undef, undef, undef, undef, undef, undef, undef, undef]) (by kernel_rfl) ?_
  intro B hret hnor hnp
  refine wp_seq_k (fun K9 hK10 => ?_)
  refine wp_region_lit ?_
  refine seqK rfl (does_box (cs := #[.int .i64 here8.X, .int .i64 here8.Y, .int .i64 here8.Z]) rfl (by kernel_rfl : _ = Value.agg #[.int .i64 here8.X, .int .i64 here8.Y, .int .i64 here8.Z]) rfl HS ?_)
  intro b11 W12 HS13
  refine seqK rfl (does_alloc (z := Value.agg #[.int .i64 0, .int .i64 0, .int .i64 0, .int .i64 0, .int .i64 0, .int .i64 0, .int .i64 0, .int .i64 0]) (cs := #[.int .i64 0, .int .i64 0, .int .i64 0, .int .i64 0, .int .i64 0, .int .i64 0, .int .i64 0, .int .i64 0]) rfl (by kernel_rfl) rfl HS13 ?_)
  intro b15 W16 HS17
  refine wpList_nil ?_
  refine hK10 _ _ ?_
  refine wp_seq_k (fun K19 hK20 => ?_)
  refine wp_region_lit ?_
  refine seqK rfl (does_lit (e := (tInt .i64)) (E := 3) (vs := #[(0, Value.int .i64 1000), (1, Value.int .i64 90000), (2, Value.int .i64 150000)]) (cs := #[.int .i64 1000, .int .i64 90000, .int .i64 150000]) (xs := ([1000, 90000, 150000] : List Int)) rfl Try.underlying30 (by kernel_rfl) (by kernel_rfl) ⟨[.int .i64 1000], _, rfl, rfl, ⟨[.int .i64 90000], _, rfl, rfl, ⟨[.int .i64 150000], _, rfl, rfl, rfl⟩⟩⟩ rfl HS17 ?_ (by decide))
  intro b21 W22 s23 HS24 _ HO25
  have HS27 := HS24.u3
  have hq_ := bind_some h; clear h; obtain ⟨⟨vt28, vt29⟩, hc30, h⟩ := hq_
  refine seqL1 (by kernel_rfl) ?_
  refine seqK rfl (does_call (f := 30) (args := #[.pointer (some ⟨b1, 0, none⟩), .int .i64 3]) (by kernel_rfl) (spymake_Stream_Next.calls k b1 A4 c5 s3 3 HS27 HR6 vt28 vt29 hc30) ?_)
  rintro _ W33 ⟨f31, rfl, L32, HS34⟩
  refine ⟨_, rfl, ?_⟩
  have hq_ := guard_some h; clear h; obtain ⟨c35, h⟩ := hq_
  have c35 : 0 ≤ vt28 := c35
  have hq_ := guard_some h; clear h; obtain ⟨c36, h⟩ := hq_
  have c36 : vt28 < (([1000, 90000, 150000] : List Int).length : Int) := c36
  obtain ⟨cs37, hr38, hc39⟩ := (HO25.mono L32).at' (i := vt28) c35 c36
  obtain rfl := hr38
  refine seqK rfl (does_run (run_index (sz := 1) rfl Try.underlying30 (by kernel_rfl) (by kernel_rfl : _ = Value.slice (some ⟨b21, 0, none⟩) ([1000, 90000, 150000] : List Int).length 3) (by kernel_rfl : _ = Value.int .i64 vt28) c35 c36 W33) ?_)
  refine seqK rfl (does_run (run_load rfl Try.underlying3 rfl (by kernel_rfl : _ = Value.pointer (some ⟨b21, 0 + (vt28 : Int).toNat * 1, none⟩)) ((hc39 HS34.u1) 0 (by decide))) ?_)
  refine seqS1 (a' := ⟨#[.pointer (some ⟨b1, 0, none⟩), .int .i64 vid7, .agg #[.int .i64 here8.X, .int .i64 here8.Y, .int .i64 here8.Z], undef, undef, .pointer (some ⟨b11, 0, none⟩), .pointer (some ⟨b15, 0, none⟩), .int .i64 (rd ([1000, 90000, 150000] : List Int) vt28), undef, .slice (some ⟨b21, 0, none⟩) ([1000, 90000, 150000] : List Int).length 3, .pointer (some ⟨b1, 0, none⟩), .int .i64 vt28, .pointer (some ⟨b21, 0 + (vt28 : Int).toNat * 1, none⟩), .int .i64 (rd ([1000, 90000, 150000] : List Int) vt28), undef, undef, undef, undef, undef, undef, undef, undef, undef, undef, undef, undef, undef, undef, undef, undef, undef, undef, undef, undef, undef, undef, undef, undef, undef, undef, undef, undef, undef, undef, undef, undef, undef, undef], []⟩) (by kernel_rfl) ?_
  refine wpList_nil ?_
  refine hK20 _ _ ?_
  refine wp_seq_k (fun K40 hK41 => ?_)
  have HS42 := HS34.u3
  have HS43 := HS42.u3
  have HS44 := HS43.u3
  have HS45 := HS44.u3
  refine heldG (S := Sg t f31 (s23 :: [(b15, .cells #[.int .i64 0, .int .i64 0, .int .i64 0, .int .i64 0, .int .i64 0, .int .i64 0, .int .i64 0, .int .i64 0] 36 (0, 0))] :: [(b11, .cells #[.int .i64 here8.X, .int .i64 here8.Y, .int .i64 here8.Z] 23 (0, 0))] :: H) [(6, [(b1, .cells #[.slice A4 s3.L.length c5, .int .i64 vt29] 33 (0, 0))])]) (n := 28) (by kernel_rfl) rfl HS45 ?_
  intro W46 HS47
  refine takeG [0] (n := 28) (fuel := 27) (l' := #[true, false, false, false, false, false, false, false, false, false, false, false, false, false, false, false, false, false, false, false, false, false, false, false, false, false, false, false]) (a' := ⟨#[.pointer (some ⟨b1, 0, none⟩), .int .i64 vid7, .agg #[.int .i64 here8.X, .int .i64 here8.Y, .int .i64 here8.Z], undef, undef, .pointer (some ⟨b11, 0, none⟩), .pointer (some ⟨b15, 0, none⟩), .int .i64 (rd ([1000, 90000, 150000] : List Int) vt28), undef, .slice (some ⟨b21, 0, none⟩) ([1000, 90000, 150000] : List Int).length 3, .pointer (some ⟨b1, 0, none⟩), .int .i64 vt28, .pointer (some ⟨b21, 0 + (vt28 : Int).toNat * 1, none⟩), .int .i64 (rd ([1000, 90000, 150000] : List Int) vt28), .pointer (some ⟨b11, 0, none⟩), undef, undef, undef, undef, undef, undef, undef, undef, undef, undef, undef, undef, undef, undef, undef, undef, undef, undef, undef, undef, undef, undef, undef, undef, undef, undef, undef, undef, undef, undef, undef, undef, undef], []⟩) rfl (by kernel_rfl) (by kernel_rfl) (by kernel_rfl) hnp (Sg.g1 (Sx.of [[(b1, .cells #[.slice A4 s3.L.length c5, .int .i64 vt29] 33 (0, 0))]] (FM.le.refl _) HS47) (fun _ => St.only [] HS47 (FM.le.refl _))) ?_
  refine takeGQ 1 [] rfl (by kernel_rfl) (by kernel_rfl) (by kernel_rfl) (by kernel_rfl) (by kernel_rfl) (by kernel_rfl) hnp (Sg.g1 (Sx.of [[(b1, .cells #[.slice A4 s3.L.length c5, .int .i64 vt29] 33 (0, 0))]] (FM.le.refl _) HS47) (fun _ => St.only [] HS47 (FM.le.refl _))) (fun w_ hw_ => by obtain ⟨g_, hl_, hS_⟩ := hw_.st; exact run_load rfl Try.underlying2 rfl (by kernel_rfl : _ = Value.pointer (some ⟨b11, 0, none⟩)) (hS_.u2.cell 0)) ?_
  refine takeG [2, 3, 4, 5, 8] (n := 26) (fuel := 21) (l' := #[true, true, true, true, true, true, false, false, true, false, false, false, false, false, false, false, false, false, false, false, false, false, false, false, false, false, false, false]) (a' := ⟨#[.pointer (some ⟨b1, 0, none⟩), .int .i64 vid7, .agg #[.int .i64 here8.X, .int .i64 here8.Y, .int .i64 here8.Z], undef, undef, .pointer (some ⟨b11, 0, none⟩), .pointer (some ⟨b15, 0, none⟩), .int .i64 (rd ([1000, 90000, 150000] : List Int) vt28), undef, .slice (some ⟨b21, 0, none⟩) ([1000, 90000, 150000] : List Int).length 3, .pointer (some ⟨b1, 0, none⟩), .int .i64 vt28, .pointer (some ⟨b21, 0 + (vt28 : Int).toNat * 1, none⟩), .int .i64 (rd ([1000, 90000, 150000] : List Int) vt28), .pointer (some ⟨b11, 0, none⟩), .int .i64 here8.X, .pointer (some ⟨b1, 0, none⟩), .int .i64 (rd ([1000, 90000, 150000] : List Int) vt28), .int .i64 (w64 (0 - (rd ([1000, 90000, 150000] : List Int) vt28))), .int .i64 (rd ([1000, 90000, 150000] : List Int) vt28), undef, undef, .pointer (some ⟨b11, 1, none⟩), undef, undef, undef, undef, undef, undef, undef, undef, undef, undef, undef, undef, undef, undef, undef, undef, undef, undef, undef, undef, undef, undef, undef, undef, undef], []⟩) rfl (by kernel_rfl) (by kernel_rfl) (by kernel_rfl) hnp (Sg.g1 (Sx.of [[(b1, .cells #[.slice A4 s3.L.length c5, .int .i64 vt29] 33 (0, 0))]] (FM.le.refl _) HS47) (fun _ => St.only [] HS47 (FM.le.refl _))) ?_
  refine takeGQ 9 [] rfl (by kernel_rfl) (by kernel_rfl) (by kernel_rfl) (by kernel_rfl) (by kernel_rfl) (by kernel_rfl) hnp (Sg.g1 (Sx.of [[(b1, .cells #[.slice A4 s3.L.length c5, .int .i64 vt29] 33 (0, 0))]] (FM.le.refl _) HS47) (fun _ => St.only [] HS47 (FM.le.refl _))) (fun w_ hw_ => by obtain ⟨g_, hl_, hS_⟩ := hw_.st; exact run_load rfl Try.underlying2 rfl (by kernel_rfl : _ = Value.pointer (some ⟨b11, 1, none⟩)) (hS_.u2.cell 1)) ?_
  refine takeG [10, 11, 12, 13, 16] (n := 20) (fuel := 15) (l' := #[true, true, true, true, true, true, false, false, true, true, true, true, true, true, false, false, true, false, false, false, false, false, false, false, false, false, false, false]) (a' := ⟨#[.pointer (some ⟨b1, 0, none⟩), .int .i64 vid7, .agg #[.int .i64 here8.X, .int .i64 here8.Y, .int .i64 here8.Z], undef, undef, .pointer (some ⟨b11, 0, none⟩), .pointer (some ⟨b15, 0, none⟩), .int .i64 (rd ([1000, 90000, 150000] : List Int) vt28), undef, .slice (some ⟨b21, 0, none⟩) ([1000, 90000, 150000] : List Int).length 3, .pointer (some ⟨b1, 0, none⟩), .int .i64 vt28, .pointer (some ⟨b21, 0 + (vt28 : Int).toNat * 1, none⟩), .int .i64 (rd ([1000, 90000, 150000] : List Int) vt28), .pointer (some ⟨b11, 0, none⟩), .int .i64 here8.X, .pointer (some ⟨b1, 0, none⟩), .int .i64 (rd ([1000, 90000, 150000] : List Int) vt28), .int .i64 (w64 (0 - (rd ([1000, 90000, 150000] : List Int) vt28))), .int .i64 (rd ([1000, 90000, 150000] : List Int) vt28), undef, undef, .pointer (some ⟨b11, 1, none⟩), .int .i64 here8.Y, .pointer (some ⟨b1, 0, none⟩), .int .i64 (rd ([1000, 90000, 150000] : List Int) vt28), .int .i64 (w64 (0 - (rd ([1000, 90000, 150000] : List Int) vt28))), .int .i64 (rd ([1000, 90000, 150000] : List Int) vt28), undef, undef, .pointer (some ⟨b11, 2, none⟩), undef, undef, undef, undef, undef, undef, undef, undef, undef, undef, undef, undef, undef, undef, undef, undef, undef], []⟩) rfl (by kernel_rfl) (by kernel_rfl) (by kernel_rfl) hnp (Sg.g1 (Sx.of [[(b1, .cells #[.slice A4 s3.L.length c5, .int .i64 vt29] 33 (0, 0))]] (FM.le.refl _) HS47) (fun _ => St.only [] HS47 (FM.le.refl _))) ?_
  refine takeGQ 17 [] rfl (by kernel_rfl) (by kernel_rfl) (by kernel_rfl) (by kernel_rfl) (by kernel_rfl) (by kernel_rfl) hnp (Sg.g1 (Sx.of [[(b1, .cells #[.slice A4 s3.L.length c5, .int .i64 vt29] 33 (0, 0))]] (FM.le.refl _) HS47) (fun _ => St.only [] HS47 (FM.le.refl _))) (fun w_ hw_ => by obtain ⟨g_, hl_, hS_⟩ := hw_.st; exact run_load rfl Try.underlying2 rfl (by kernel_rfl : _ = Value.pointer (some ⟨b11, 2, none⟩)) (hS_.u2.cell 2)) ?_
  have hq_ := bind_some h; clear h; obtain ⟨⟨vt48, vt49⟩, hc50, h⟩ := hq_
  have hq_ := bind_some h; clear h; obtain ⟨⟨vt55, vt56⟩, hc57, h⟩ := hq_
  have hq_ := bind_some h; clear h; obtain ⟨⟨vt62, vt63⟩, hc64, h⟩ := hq_
  refine takeG [18, 19, 20, 21] (n := 14) (fuel := 10) (l' := #[true, true, true, true, true, true, false, false, true, true, true, true, true, true, false, false, true, true, true, true, true, true, false, false, false, false, false, false]) (a' := ⟨#[.pointer (some ⟨b1, 0, none⟩), .int .i64 vid7, .agg #[.int .i64 here8.X, .int .i64 here8.Y, .int .i64 here8.Z], undef, undef, .pointer (some ⟨b11, 0, none⟩), .pointer (some ⟨b15, 0, none⟩), .int .i64 (rd ([1000, 90000, 150000] : List Int) vt28), undef, .slice (some ⟨b21, 0, none⟩) ([1000, 90000, 150000] : List Int).length 3, .pointer (some ⟨b1, 0, none⟩), .int .i64 vt28, .pointer (some ⟨b21, 0 + (vt28 : Int).toNat * 1, none⟩), .int .i64 (rd ([1000, 90000, 150000] : List Int) vt28), .pointer (some ⟨b11, 0, none⟩), .int .i64 here8.X, .pointer (some ⟨b1, 0, none⟩), .int .i64 (rd ([1000, 90000, 150000] : List Int) vt28), .int .i64 (w64 (0 - (rd ([1000, 90000, 150000] : List Int) vt28))), .int .i64 (rd ([1000, 90000, 150000] : List Int) vt28), undef, undef, .pointer (some ⟨b11, 1, none⟩), .int .i64 here8.Y, .pointer (some ⟨b1, 0, none⟩), .int .i64 (rd ([1000, 90000, 150000] : List Int) vt28), .int .i64 (w64 (0 - (rd ([1000, 90000, 150000] : List Int) vt28))), .int .i64 (rd ([1000, 90000, 150000] : List Int) vt28), undef, undef, .pointer (some ⟨b11, 2, none⟩), .int .i64 here8.Z, .pointer (some ⟨b1, 0, none⟩), .int .i64 (rd ([1000, 90000, 150000] : List Int) vt28), .int .i64 (w64 (0 - (rd ([1000, 90000, 150000] : List Int) vt28))), .int .i64 (rd ([1000, 90000, 150000] : List Int) vt28), undef, undef, undef, undef, undef, undef, undef, undef, undef, undef, undef, undef], []⟩) rfl (by kernel_rfl) (by kernel_rfl) (by kernel_rfl) hnp (Sg.g1 (Sx.of [[(b1, .cells #[.slice A4 s3.L.length c5, .int .i64 vt29] 33 (0, 0))]] (FM.le.refl _) HS47) (fun _ => St.only [] HS47 (FM.le.refl _))) ?_
  refine withR #[true, true, true, true, true, true, true, true, true, true, true, true, true, true, true, true, true, true, true, true, true, true, true, true, true, true, true, true] ?_
  intro R75 hR76 hR77
  have J78 : ∀ (f51 : FM) (f58 : FM) (f65 : FM) (b69 : Nat) (W79 : World) (a_ : Act), FM.le f31 f51 → FM.le f51 f58 → FM.le f58 f65 → St t W79 f65 ([(b69, .cells #[.int .i64 (w64 (here8.X + vt48)), .int .i64 (w64 (here8.Y + vt55)), .int .i64 (w64 (here8.Z + (w64 (Int.tdiv vt62 3))))] 23 (0, 0))] :: [(b1, .cells #[.slice A4 s3.L.length c5, .int .i64 vt63] 33 (0, 0))] :: s23 :: [(b15, .cells #[.int .i64 0, .int .i64 0, .int .i64 0, .int .i64 0, .int .i64 0, .int .i64 0, .int .i64 0, .int .i64 0] 36 (0, 0))] :: [(b11, .cells #[.int .i64 here8.X, .int .i64 here8.Y, .int .i64 here8.Z] 23 (0, 0))] :: H) → a_ = ⟨#[.pointer (some ⟨b1, 0, none⟩), .int .i64 vid7, .agg #[.int .i64 here8.X, .int .i64 here8.Y, .int .i64 here8.Z], undef, undef, .pointer (some ⟨b11, 0, none⟩), .pointer (some ⟨b15, 0, none⟩), .int .i64 (rd ([1000, 90000, 150000] : List Int) vt28), .pointer (some ⟨b69, 0, none⟩), .slice (some ⟨b21, 0, none⟩) ([1000, 90000, 150000] : List Int).length 3, .pointer (some ⟨b1, 0, none⟩), .int .i64 vt28, .pointer (some ⟨b21, 0 + (vt28 : Int).toNat * 1, none⟩), .int .i64 (rd ([1000, 90000, 150000] : List Int) vt28), .pointer (some ⟨b11, 0, none⟩), .int .i64 here8.X, .pointer (some ⟨b1, 0, none⟩), .int .i64 (rd ([1000, 90000, 150000] : List Int) vt28), .int .i64 (w64 (0 - (rd ([1000, 90000, 150000] : List Int) vt28))), .int .i64 (rd ([1000, 90000, 150000] : List Int) vt28), .int .i64 vt48, .int .i64 (w64 (here8.X + vt48)), .pointer (some ⟨b11, 1, none⟩), .int .i64 here8.Y, .pointer (some ⟨b1, 0, none⟩), .int .i64 (rd ([1000, 90000, 150000] : List Int) vt28), .int .i64 (w64 (0 - (rd ([1000, 90000, 150000] : List Int) vt28))), .int .i64 (rd ([1000, 90000, 150000] : List Int) vt28), .int .i64 vt55, .int .i64 (w64 (here8.Y + vt55)), .pointer (some ⟨b11, 2, none⟩), .int .i64 here8.Z, .pointer (some ⟨b1, 0, none⟩), .int .i64 (rd ([1000, 90000, 150000] : List Int) vt28), .int .i64 (w64 (0 - (rd ([1000, 90000, 150000] : List Int) vt28))), .int .i64 (rd ([1000, 90000, 150000] : List Int) vt28), .int .i64 vt62, .int .i64 (w64 (Int.tdiv vt62 3)), .int .i64 (w64 (here8.Z + (w64 (Int.tdiv vt62 3)))), .agg #[.int .i64 (w64 (here8.X + vt48)), .int .i64 (w64 (here8.Y + vt55)), .int .i64 (w64 (here8.Z + (w64 (Int.tdiv vt62 3))))], undef, undef, undef, undef, undef, undef, undef, undef], []⟩ → R75 a_ W79 := by
    intro f51 f58 f65 b69 W79 a_ L52 L59 L66 HS80 hfr_; subst hfr_
    refine hR76 _ _ ?_
    refine doneG (by kernel_rfl) ?_ _
    refine hK41 _ _ ?_
    refine wp_seq_k (fun K147 hK148 => ?_)
    have HS149 := HS80.u4
    have HS150 := HS149.u3
    have HS151 := HS150.u2
    have HS152 := HS151.u4
    have HS153 := HS152.u4
    refine heldG (S := Sg t f65 ([(b69, .cells #[.int .i64 (w64 (here8.X + vt48)), .int .i64 (w64 (here8.Y + vt55)), .int .i64 (w64 (here8.Z + (w64 (Int.tdiv vt62 3))))] 23 (0, 0))] :: s23 :: [(b11, .cells #[.int .i64 here8.X, .int .i64 here8.Y, .int .i64 here8.Z] 23 (0, 0))] :: H) [(6, [(b1, .cells #[.slice A4 s3.L.length c5, .int .i64 vt63] 33 (0, 0))]), (8, [(b15, .cells #[.int .i64 0, .int .i64 0, .int .i64 0, .int .i64 0, .int .i64 0, .int .i64 0, .int .i64 0, .int .i64 0] 36 (0, 0))])]) (n := 9) (by kernel_rfl) rfl HS153 ?_
    intro W154 HS155
    refine takeG [0] (n := 9) (fuel := 8) (l' := #[true, false, false, false, false, false, false, false, false]) (a' := ⟨#[.pointer (some ⟨b1, 0, none⟩), .int .i64 vid7, .agg #[.int .i64 here8.X, .int .i64 here8.Y, .int .i64 here8.Z], undef, undef, .pointer (some ⟨b11, 0, none⟩), .pointer (some ⟨b15, 0, none⟩), .int .i64 (rd ([1000, 90000, 150000] : List Int) vt28), .pointer (some ⟨b69, 0, none⟩), .slice (some ⟨b21, 0, none⟩) ([1000, 90000, 150000] : List Int).length 3, .pointer (some ⟨b1, 0, none⟩), .int .i64 vt28, .pointer (some ⟨b21, 0 + (vt28 : Int).toNat * 1, none⟩), .int .i64 (rd ([1000, 90000, 150000] : List Int) vt28), .pointer (some ⟨b11, 0, none⟩), .int .i64 here8.X, .pointer (some ⟨b1, 0, none⟩), .int .i64 (rd ([1000, 90000, 150000] : List Int) vt28), .int .i64 (w64 (0 - (rd ([1000, 90000, 150000] : List Int) vt28))), .int .i64 (rd ([1000, 90000, 150000] : List Int) vt28), .int .i64 vt48, .int .i64 (w64 (here8.X + vt48)), .pointer (some ⟨b11, 1, none⟩), .int .i64 here8.Y, .pointer (some ⟨b1, 0, none⟩), .int .i64 (rd ([1000, 90000, 150000] : List Int) vt28), .int .i64 (w64 (0 - (rd ([1000, 90000, 150000] : List Int) vt28))), .int .i64 (rd ([1000, 90000, 150000] : List Int) vt28), .int .i64 vt55, .int .i64 (w64 (here8.Y + vt55)), .pointer (some ⟨b11, 2, none⟩), .int .i64 here8.Z, .pointer (some ⟨b1, 0, none⟩), .int .i64 (rd ([1000, 90000, 150000] : List Int) vt28), .int .i64 (w64 (0 - (rd ([1000, 90000, 150000] : List Int) vt28))), .int .i64 (rd ([1000, 90000, 150000] : List Int) vt28), .int .i64 vt62, .int .i64 (w64 (Int.tdiv vt62 3)), .int .i64 (w64 (here8.Z + (w64 (Int.tdiv vt62 3)))), .agg #[.int .i64 (w64 (here8.X + vt48)), .int .i64 (w64 (here8.Y + vt55)), .int .i64 (w64 (here8.Z + (w64 (Int.tdiv vt62 3))))], .int .i64 vid7, undef, undef, undef, undef, undef, undef, undef], []⟩) rfl (by kernel_rfl) (by kernel_rfl) (by kernel_rfl) hnp (Sg.g2 (Sx.of [[(b1, .cells #[.slice A4 s3.L.length c5, .int .i64 vt63] 33 (0, 0))], [(b15, .cells #[.int .i64 0, .int .i64 0, .int .i64 0, .int .i64 0, .int .i64 0, .int .i64 0, .int .i64 0, .int .i64 0] 36 (0, 0))]] (FM.le.refl _) HS155) (fun _ => St.only [] HS155 (FM.le.refl _)) (fun _ => St.only [[(b1, .cells #[.slice A4 s3.L.length c5, .int .i64 vt63] 33 (0, 0))]] HS155 (FM.le.refl _))) ?_
    refine takeGQ 1 [] rfl (by kernel_rfl) (by kernel_rfl) (by kernel_rfl) (by kernel_rfl) (by kernel_rfl) (by kernel_rfl) hnp (Sg.g2 (Sx.of [[(b1, .cells #[.slice A4 s3.L.length c5, .int .i64 vt63] 33 (0, 0))], [(b15, .cells #[.int .i64 0, .int .i64 0, .int .i64 0, .int .i64 0, .int .i64 0, .int .i64 0, .int .i64 0, .int .i64 0] 36 (0, 0))]] (FM.le.refl _) HS155) (fun _ => St.only [] HS155 (FM.le.refl _)) (fun _ => St.only [[(b1, .cells #[.slice A4 s3.L.length c5, .int .i64 vt63] 33 (0, 0))]] HS155 (FM.le.refl _))) (fun w_ hw_ => by obtain ⟨g_, hl_, hS_⟩ := hw_.st; exact run_loadN (n := 3) rfl Try.underlying23 rfl (by kernel_rfl) (by kernel_rfl : _ = Value.pointer (some ⟨b69, 0, none⟩)) (cs := [.int .i64 (w64 (here8.X + vt48)), .int .i64 (w64 (here8.Y + vt55)), .int .i64 (w64 (here8.Z + (w64 (Int.tdiv vt62 3))))]) rfl (hS_.cells 0 3 _ rfl)) ?_
    refine takeGQ 3 [] rfl (by kernel_rfl) (by kernel_rfl) (by kernel_rfl) (by kernel_rfl) (by kernel_rfl) (by kernel_rfl) hnp (Sg.g2 (Sx.of [[(b1, .cells #[.slice A4 s3.L.length c5, .int .i64 vt63] 33 (0, 0))], [(b15, .cells #[.int .i64 0, .int .i64 0, .int .i64 0, .int .i64 0, .int .i64 0, .int .i64 0, .int .i64 0, .int .i64 0] 36 (0, 0))]] (FM.le.refl _) HS155) (fun _ => St.only [] HS155 (FM.le.refl _)) (fun _ => St.only [[(b1, .cells #[.slice A4 s3.L.length c5, .int .i64 vt63] 33 (0, 0))]] HS155 (FM.le.refl _))) (fun w_ hw_ => by obtain ⟨g_, hl_, hS_⟩ := hw_.st; exact run_loadN (n := 3) rfl Try.underlying23 rfl (by kernel_rfl) (by kernel_rfl : _ = Value.pointer (some ⟨b11, 0, none⟩)) (cs := [.int .i64 here8.X, .int .i64 here8.Y, .int .i64 here8.Z]) rfl (hS_.u2.cells 0 3 _ rfl)) ?_
    refine takeG [5] (n := 6) (fuel := 5) (l' := #[true, true, false, true, false, true, false, false, false]) (a' := ⟨#[.pointer (some ⟨b1, 0, none⟩), .int .i64 vid7, .agg #[.int .i64 here8.X, .int .i64 here8.Y, .int .i64 here8.Z], undef, undef, .pointer (some ⟨b11, 0, none⟩), .pointer (some ⟨b15, 0, none⟩), .int .i64 (rd ([1000, 90000, 150000] : List Int) vt28), .pointer (some ⟨b69, 0, none⟩), .slice (some ⟨b21, 0, none⟩) ([1000, 90000, 150000] : List Int).length 3, .pointer (some ⟨b1, 0, none⟩), .int .i64 vt28, .pointer (some ⟨b21, 0 + (vt28 : Int).toNat * 1, none⟩), .int .i64 (rd ([1000, 90000, 150000] : List Int) vt28), .pointer (some ⟨b11, 0, none⟩), .int .i64 here8.X, .pointer (some ⟨b1, 0, none⟩), .int .i64 (rd ([1000, 90000, 150000] : List Int) vt28), .int .i64 (w64 (0 - (rd ([1000, 90000, 150000] : List Int) vt28))), .int .i64 (rd ([1000, 90000, 150000] : List Int) vt28), .int .i64 vt48, .int .i64 (w64 (here8.X + vt48)), .pointer (some ⟨b11, 1, none⟩), .int .i64 here8.Y, .pointer (some ⟨b1, 0, none⟩), .int .i64 (rd ([1000, 90000, 150000] : List Int) vt28), .int .i64 (w64 (0 - (rd ([1000, 90000, 150000] : List Int) vt28))), .int .i64 (rd ([1000, 90000, 150000] : List Int) vt28), .int .i64 vt55, .int .i64 (w64 (here8.Y + vt55)), .pointer (some ⟨b11, 2, none⟩), .int .i64 here8.Z, .pointer (some ⟨b1, 0, none⟩), .int .i64 (rd ([1000, 90000, 150000] : List Int) vt28), .int .i64 (w64 (0 - (rd ([1000, 90000, 150000] : List Int) vt28))), .int .i64 (rd ([1000, 90000, 150000] : List Int) vt28), .int .i64 vt62, .int .i64 (w64 (Int.tdiv vt62 3)), .int .i64 (w64 (here8.Z + (w64 (Int.tdiv vt62 3)))), .agg #[.int .i64 (w64 (here8.X + vt48)), .int .i64 (w64 (here8.Y + vt55)), .int .i64 (w64 (here8.Z + (w64 (Int.tdiv vt62 3))))], .int .i64 vid7, .agg #[.int .i64 (w64 (here8.X + vt48)), .int .i64 (w64 (here8.Y + vt55)), .int .i64 (w64 (here8.Z + (w64 (Int.tdiv vt62 3))))], undef, .agg #[.int .i64 here8.X, .int .i64 here8.Y, .int .i64 here8.Z], undef, .pointer (some ⟨b1, 0, none⟩), undef, undef], []⟩) rfl (by kernel_rfl) (by kernel_rfl) (by kernel_rfl) hnp (Sg.g2 (Sx.of [[(b1, .cells #[.slice A4 s3.L.length c5, .int .i64 vt63] 33 (0, 0))], [(b15, .cells #[.int .i64 0, .int .i64 0, .int .i64 0, .int .i64 0, .int .i64 0, .int .i64 0, .int .i64 0, .int .i64 0] 36 (0, 0))]] (FM.le.refl _) HS155) (fun _ => St.only [] HS155 (FM.le.refl _)) (fun _ => St.only [[(b1, .cells #[.slice A4 s3.L.length c5, .int .i64 vt63] 33 (0, 0))]] HS155 (FM.le.refl _))) ?_
    have hq_ := bind_some h; clear h; obtain ⟨vt156, hc157, h⟩ := hq_
    refine takeGE 2 (by kernel_rfl) rfl (by kernel_rfl) (does_call (f := 31) (args := #[.agg #[.int .i64 (w64 (here8.X + vt48)), .int .i64 (w64 (here8.Y + vt55)), .int .i64 (w64 (here8.Z + (w64 (Int.tdiv vt62 3))))]]) (by kernel_rfl) (spymake_within.calls k (⟨w64 (here8.X + vt48), w64 (here8.Y + vt55), w64 (here8.Z + (w64 (Int.tdiv vt62 3)))⟩ : S_Vec) HS155 vt156 hc157) ?_)
    rintro _ W160 ⟨f158, rfl, L159, HS161⟩
    refine ⟨_, rfl, ?_⟩
    refine ⟨(Sg.g2 (Sx.of [[(b1, .cells #[.slice A4 s3.L.length c5, .int .i64 vt63] 33 (0, 0))], [(b15, .cells #[.int .i64 0, .int .i64 0, .int .i64 0, .int .i64 0, .int .i64 0, .int .i64 0, .int .i64 0, .int .i64 0] 36 (0, 0))]] L159 HS161) (fun _ => St.only [] HS161 L159) (fun _ => St.only [[(b1, .cells #[.slice A4 s3.L.length c5, .int .i64 vt63] 33 (0, 0))]] HS161 L159)), ?_⟩
    have hq_ := bind_some h; clear h; obtain ⟨vt162, hc163, h⟩ := hq_
    refine takeGE 4 (by kernel_rfl) rfl (by kernel_rfl) (does_call (f := 31) (args := #[.agg #[.int .i64 here8.X, .int .i64 here8.Y, .int .i64 here8.Z]]) (by kernel_rfl) (spymake_within.calls k here8 HS161 vt162 hc163) ?_)
    rintro _ W166 ⟨f164, rfl, L165, HS167⟩
    refine ⟨_, rfl, ?_⟩
    refine ⟨(Sg.g2 (Sx.of [[(b1, .cells #[.slice A4 s3.L.length c5, .int .i64 vt63] 33 (0, 0))], [(b15, .cells #[.int .i64 0, .int .i64 0, .int .i64 0, .int .i64 0, .int .i64 0, .int .i64 0, .int .i64 0, .int .i64 0] 36 (0, 0))]] (L159.trans L165) HS167) (fun _ => St.only [] HS167 (L159.trans L165)) (fun _ => St.only [[(b1, .cells #[.slice A4 s3.L.length c5, .int .i64 vt63] 33 (0, 0))]] HS167 (L159.trans L165))), ?_⟩
    have hq_ := bind_some h; clear h; obtain ⟨⟨vt168, vt169⟩, hc170, h⟩ := hq_
    refine takeGE 6 (by kernel_rfl) rfl (by kernel_rfl) (does_call (f := 32) (args := #[.pointer (some ⟨b1, 0, none⟩)]) (by kernel_rfl) (spymake_Stream_rate.calls k b1 A4 c5 (⟨s3.L, vt63⟩ : S_Stream) HS167 (HR6.mono (L32.trans (L52.trans (L59.trans (L66.trans (L159.trans L165)))))) vt168 vt169 hc170) ?_)
    rintro _ W173 ⟨f171, rfl, L172, HS174⟩
    refine ⟨_, rfl, ?_⟩
    refine ⟨(Sg.g2 (Sx.of [[(b1, .cells #[.slice A4 s3.L.length c5, .int .i64 vt169] 33 (0, 0))], [(b15, .cells #[.int .i64 0, .int .i64 0, .int .i64 0, .int .i64 0, .int .i64 0, .int .i64 0, .int .i64 0, .int .i64 0] 36 (0, 0))]] (L159.trans (L165.trans L172)) HS174) (fun hl_ => Bool.noConfusion (show true = false from hl_)) (fun _ => St.only [[(b1, .cells #[.slice A4 s3.L.length c5, .int .i64 vt169] 33 (0, 0))]] HS174 (L159.trans (L165.trans L172)))), ?_⟩
    refine takeG [7] (n := 2) (fuel := 1) (l' := #[true, true, true, true, true, true, true, true, false]) (a' := ⟨#[.pointer (some ⟨b1, 0, none⟩), .int .i64 vid7, .agg #[.int .i64 here8.X, .int .i64 here8.Y, .int .i64 here8.Z], undef, undef, .pointer (some ⟨b11, 0, none⟩), .pointer (some ⟨b15, 0, none⟩), .int .i64 (rd ([1000, 90000, 150000] : List Int) vt28), .pointer (some ⟨b69, 0, none⟩), .slice (some ⟨b21, 0, none⟩) ([1000, 90000, 150000] : List Int).length 3, .pointer (some ⟨b1, 0, none⟩), .int .i64 vt28, .pointer (some ⟨b21, 0 + (vt28 : Int).toNat * 1, none⟩), .int .i64 (rd ([1000, 90000, 150000] : List Int) vt28), .pointer (some ⟨b11, 0, none⟩), .int .i64 here8.X, .pointer (some ⟨b1, 0, none⟩), .int .i64 (rd ([1000, 90000, 150000] : List Int) vt28), .int .i64 (w64 (0 - (rd ([1000, 90000, 150000] : List Int) vt28))), .int .i64 (rd ([1000, 90000, 150000] : List Int) vt28), .int .i64 vt48, .int .i64 (w64 (here8.X + vt48)), .pointer (some ⟨b11, 1, none⟩), .int .i64 here8.Y, .pointer (some ⟨b1, 0, none⟩), .int .i64 (rd ([1000, 90000, 150000] : List Int) vt28), .int .i64 (w64 (0 - (rd ([1000, 90000, 150000] : List Int) vt28))), .int .i64 (rd ([1000, 90000, 150000] : List Int) vt28), .int .i64 vt55, .int .i64 (w64 (here8.Y + vt55)), .pointer (some ⟨b11, 2, none⟩), .int .i64 here8.Z, .pointer (some ⟨b1, 0, none⟩), .int .i64 (rd ([1000, 90000, 150000] : List Int) vt28), .int .i64 (w64 (0 - (rd ([1000, 90000, 150000] : List Int) vt28))), .int .i64 (rd ([1000, 90000, 150000] : List Int) vt28), .int .i64 vt62, .int .i64 (w64 (Int.tdiv vt62 3)), .int .i64 (w64 (here8.Z + (w64 (Int.tdiv vt62 3)))), .agg #[.int .i64 (w64 (here8.X + vt48)), .int .i64 (w64 (here8.Y + vt55)), .int .i64 (w64 (here8.Z + (w64 (Int.tdiv vt62 3))))], .int .i64 vid7, .agg #[.int .i64 (w64 (here8.X + vt48)), .int .i64 (w64 (here8.Y + vt55)), .int .i64 (w64 (here8.Z + (w64 (Int.tdiv vt62 3))))], .agg #[.int .i64 vt156.X, .int .i64 vt156.Y, .int .i64 vt156.Z], .agg #[.int .i64 here8.X, .int .i64 here8.Y, .int .i64 here8.Z], .agg #[.int .i64 vt162.X, .int .i64 vt162.Y, .int .i64 vt162.Z], .pointer (some ⟨b1, 0, none⟩), .int .i64 vt168, .agg #[.int .i64 vid7, .int .i64 vt156.X, .int .i64 vt156.Y, .int .i64 vt156.Z, .int .i64 vt162.X, .int .i64 vt162.Y, .int .i64 vt162.Z, .int .i64 vt168]], []⟩) rfl (by kernel_rfl) (by kernel_rfl) (by kernel_rfl) hnp (Sg.g2 (Sx.of [[(b1, .cells #[.slice A4 s3.L.length c5, .int .i64 vt169] 33 (0, 0))], [(b15, .cells #[.int .i64 0, .int .i64 0, .int .i64 0, .int .i64 0, .int .i64 0, .int .i64 0, .int .i64 0, .int .i64 0] 36 (0, 0))]] (L159.trans (L165.trans L172)) HS174) (fun hl_ => Bool.noConfusion (show true = false from hl_)) (fun _ => St.only [[(b1, .cells #[.slice A4 s3.L.length c5, .int .i64 vt169] 33 (0, 0))]] HS174 (L159.trans (L165.trans L172)))) ?_
    have HS175 := HS174.u1
    refine takeGE 8 (by kernel_rfl) rfl (by kernel_rfl) (does_store (n := 8) (vs := [.int .i64 vid7, .int .i64 vt156.X, .int .i64 vt156.Y, .int .i64 vt156.Z, .int .i64 vt162.X, .int .i64 vt162.Y, .int .i64 vt162.Z, .int .i64 vt168]) (cs' := #[.int .i64 vid7, .int .i64 vt156.X, .int .i64 vt156.Y, .int .i64 vt156.Z, .int .i64 vt162.X, .int .i64 vt162.Y, .int .i64 vt162.Z, .int .i64 vt168]) rfl (by kernel_rfl) (by kernel_rfl : _ = Value.pointer (some ⟨b15, 0, none⟩)) (by kernel_rfl : _ = Value.agg #[.int .i64 vid7, .int .i64 vt156.X, .int .i64 vt156.Y, .int .i64 vt156.Z, .int .i64 vt162.X, .int .i64 vt162.Y, .int .i64 vt162.Z, .int .i64 vt168]) rfl rfl (by intro u_ hu_; simp only [List.mem_cons, List.not_mem_nil, or_false] at hu_; rcases hu_ with rfl | rfl | rfl | rfl | rfl | rfl | rfl | rfl <;> rfl) HS175 (Nat.le_of_ble_eq_true rfl) (by kernel_rfl) ?_)
    intro W176 HS177
    refine ⟨(Sg.g2 (Sx.of [[(b15, .cells #[.int .i64 vid7, .int .i64 vt156.X, .int .i64 vt156.Y, .int .i64 vt156.Z, .int .i64 vt162.X, .int .i64 vt162.Y, .int .i64 vt162.Z, .int .i64 vt168] 36 (0, 0))], [(b1, .cells #[.slice A4 s3.L.length c5, .int .i64 vt169] 33 (0, 0))]] (L159.trans (L165.trans L172)) HS177) (fun hl_ => Bool.noConfusion (show true = false from hl_)) (fun hl_ => Bool.noConfusion (show true = false from hl_))), ?_⟩
    refine doneG (by kernel_rfl) ?_ _
    refine hK148 _ _ ?_
    refine wp_ret ?_
    refine hret _ _ ?_
    refine ends (v := Value.agg #[.int .i64 vid7, .int .i64 vt156.X, .int .i64 vt156.Y, .int .i64 vt156.Z, .int .i64 vt162.X, .int .i64 vt162.Y, .int .i64 vt162.Z, .int .i64 vt168]) (results1 (q1 := .cell 6 36) (by kernel_rfl) (resN (n := 8) (cs := [.int .i64 vid7, .int .i64 vt156.X, .int .i64 vt156.Y, .int .i64 vt156.Z, .int .i64 vt162.X, .int .i64 vt162.Y, .int .i64 vt162.Z, .int .i64 vt168]) (by kernel_rfl : _ = Value.pointer (some ⟨b15, 0, none⟩)) Try.underlying36 rfl (by kernel_rfl) rfl (HS177.cells 0 8 _ rfl))) (by kernel_rfl) ?_
    have HS178 := HS177.u1
    have HS179 := HS178.u4
    have HS180 := HS179.u4
    have HS181 := HS180.u4
    have HS182 := HS181.u4
    have HS183 := HS182.drop
    have HS184 := HS183.drop
    have HS185 := HS184.drop
    have HS186 := HS185.drop
    injection h with h
    injection h with h0_ h
    subst h0_ h
    exact ⟨f171, rfl, (L32.trans (L52.trans (L59.trans (L66.trans (L159.trans (L165.trans L172)))))), HS186⟩
  refine takeEither 6 26 (by kernel_rfl) rfl rfl rfl rfl ?_ ?_
  · refine does_call (f := 14) (args := #[.pointer (some ⟨b1, 0, none⟩), .int .i64 (w64 (0 - (rd ([1000, 90000, 150000] : List Int) vt28))), .int .i64 (rd ([1000, 90000, 150000] : List Int) vt28)]) (by kernel_rfl) (spymake_Stream_Range.calls k b1 A4 c5 (⟨s3.L, vt29⟩ : S_Stream) (w64 (0 - (rd ([1000, 90000, 150000] : List Int) vt28))) (rd ([1000, 90000, 150000] : List Int) vt28) HS47 (HR6.mono L32) vt48 vt49 hc50) ?_
    rintro _ W83 ⟨f81, rfl, L82, HS84⟩
    refine ⟨_, rfl, ?_⟩
    refine ⟨(Sg.g1 (Sx.of [[(b1, .cells #[.slice A4 s3.L.length c5, .int .i64 vt49] 33 (0, 0))]] L82 HS84) (fun hl_ => Bool.noConfusion (show true = false from hl_))), ?_⟩
    refine takeG [7] (n := 9) (fuel := 8) (l' := #[true, true, true, true, true, true, true, true, true, true, true, true, true, true, false, false, true, true, true, true, true, true, false, false, false, false, false, false]) (a' := ⟨#[.pointer (some ⟨b1, 0, none⟩), .int .i64 vid7, .agg #[.int .i64 here8.X, .int .i64 here8.Y, .int .i64 here8.Z], undef, undef, .pointer (some ⟨b11, 0, none⟩), .pointer (some ⟨b15, 0, none⟩), .int .i64 (rd ([1000, 90000, 150000] : List Int) vt28), undef, .slice (some ⟨b21, 0, none⟩) ([1000, 90000, 150000] : List Int).length 3, .pointer (some ⟨b1, 0, none⟩), .int .i64 vt28, .pointer (some ⟨b21, 0 + (vt28 : Int).toNat * 1, none⟩), .int .i64 (rd ([1000, 90000, 150000] : List Int) vt28), .pointer (some ⟨b11, 0, none⟩), .int .i64 here8.X, .pointer (some ⟨b1, 0, none⟩), .int .i64 (rd ([1000, 90000, 150000] : List Int) vt28), .int .i64 (w64 (0 - (rd ([1000, 90000, 150000] : List Int) vt28))), .int .i64 (rd ([1000, 90000, 150000] : List Int) vt28), .int .i64 vt48, .int .i64 (w64 (here8.X + vt48)), .pointer (some ⟨b11, 1, none⟩), .int .i64 here8.Y, .pointer (some ⟨b1, 0, none⟩), .int .i64 (rd ([1000, 90000, 150000] : List Int) vt28), .int .i64 (w64 (0 - (rd ([1000, 90000, 150000] : List Int) vt28))), .int .i64 (rd ([1000, 90000, 150000] : List Int) vt28), undef, undef, .pointer (some ⟨b11, 2, none⟩), .int .i64 here8.Z, .pointer (some ⟨b1, 0, none⟩), .int .i64 (rd ([1000, 90000, 150000] : List Int) vt28), .int .i64 (w64 (0 - (rd ([1000, 90000, 150000] : List Int) vt28))), .int .i64 (rd ([1000, 90000, 150000] : List Int) vt28), undef, undef, undef, undef, undef, undef, undef, undef, undef, undef, undef, undef], []⟩) rfl (by kernel_rfl) (by kernel_rfl) (by kernel_rfl) hnp (Sg.g1 (Sx.of [[(b1, .cells #[.slice A4 s3.L.length c5, .int .i64 vt49] 33 (0, 0))]] L82 HS84) (fun hl_ => Bool.noConfusion (show true = false from hl_))) ?_
    refine takeEither 14 26 (by kernel_rfl) rfl rfl rfl rfl ?_ ?_
    · refine does_call (f := 14) (args := #[.pointer (some ⟨b1, 0, none⟩), .int .i64 (w64 (0 - (rd ([1000, 90000, 150000] : List Int) vt28))), .int .i64 (rd ([1000, 90000, 150000] : List Int) vt28)]) (by kernel_rfl) (spymake_Stream_Range.calls k b1 A4 c5 (⟨s3.L, vt49⟩ : S_Stream) (w64 (0 - (rd ([1000, 90000, 150000] : List Int) vt28))) (rd ([1000, 90000, 150000] : List Int) vt28) HS84 (HR6.mono (L32.trans L82)) vt55 vt56 hc57) ?_
      rintro _ W87 ⟨f85, rfl, L86, HS88⟩
      refine ⟨_, rfl, ?_⟩
      refine ⟨(Sg.g1 (Sx.of [[(b1, .cells #[.slice A4 s3.L.length c5, .int .i64 vt56] 33 (0, 0))]] (L82.trans L86) HS88) (fun hl_ => Bool.noConfusion (show true = false from hl_))), ?_⟩
      refine takeG [15] (n := 7) (fuel := 6) (l' := #[true, true, true, true, true, true, true, true, true, true, true, true, true, true, true, true, true, true, true, true, true, true, false, false, false, false, false, false]) (a' := ⟨#[.pointer (some ⟨b1, 0, none⟩), .int .i64 vid7, .agg #[.int .i64 here8.X, .int .i64 here8.Y, .int .i64 here8.Z], undef, undef, .pointer (some ⟨b11, 0, none⟩), .pointer (some ⟨b15, 0, none⟩), .int .i64 (rd ([1000, 90000, 150000] : List Int) vt28), undef, .slice (some ⟨b21, 0, none⟩) ([1000, 90000, 150000] : List Int).length 3, .pointer (some ⟨b1, 0, none⟩), .int .i64 vt28, .pointer (some ⟨b21, 0 + (vt28 : Int).toNat * 1, none⟩), .int .i64 (rd ([1000, 90000, 150000] : List Int) vt28), .pointer (some ⟨b11, 0, none⟩), .int .i64 here8.X, .pointer (some ⟨b1, 0, none⟩), .int .i64 (rd ([1000, 90000, 150000] : List Int) vt28), .int .i64 (w64 (0 - (rd ([1000, 90000, 150000] : List Int) vt28))), .int .i64 (rd ([1000, 90000, 150000] : List Int) vt28), .int .i64 vt48, .int .i64 (w64 (here8.X + vt48)), .pointer (some ⟨b11, 1, none⟩), .int .i64 here8.Y, .pointer (some ⟨b1, 0, none⟩), .int .i64 (rd ([1000, 90000, 150000] : List Int) vt28), .int .i64 (w64 (0 - (rd ([1000, 90000, 150000] : List Int) vt28))), .int .i64 (rd ([1000, 90000, 150000] : List Int) vt28), .int .i64 vt55, .int .i64 (w64 (here8.Y + vt55)), .pointer (some ⟨b11, 2, none⟩), .int .i64 here8.Z, .pointer (some ⟨b1, 0, none⟩), .int .i64 (rd ([1000, 90000, 150000] : List Int) vt28), .int .i64 (w64 (0 - (rd ([1000, 90000, 150000] : List Int) vt28))), .int .i64 (rd ([1000, 90000, 150000] : List Int) vt28), undef, undef, undef, undef, undef, undef, undef, undef, undef, undef, undef, undef], []⟩) rfl (by kernel_rfl) (by kernel_rfl) (by kernel_rfl) hnp (Sg.g1 (Sx.of [[(b1, .cells #[.slice A4 s3.L.length c5, .int .i64 vt56] 33 (0, 0))]] (L82.trans L86) HS88) (fun hl_ => Bool.noConfusion (show true = false from hl_))) ?_
      refine takeEither 22 26 (by kernel_rfl) rfl rfl rfl rfl ?_ ?_
      · refine does_call (f := 14) (args := #[.pointer (some ⟨b1, 0, none⟩), .int .i64 (w64 (0 - (rd ([1000, 90000, 150000] : List Int) vt28))), .int .i64 (rd ([1000, 90000, 150000] : List Int) vt28)]) (by kernel_rfl) (spymake_Stream_Range.calls k b1 A4 c5 (⟨s3.L, vt56⟩ : S_Stream) (w64 (0 - (rd ([1000, 90000, 150000] : List Int) vt28))) (rd ([1000, 90000, 150000] : List Int) vt28) HS88 (HR6.mono (L32.trans (L82.trans L86))) vt62 vt63 hc64) ?_
        rintro _ W91 ⟨f89, rfl, L90, HS92⟩
        refine ⟨_, rfl, ?_⟩
        refine ⟨(Sg.g1 (Sx.of [[(b1, .cells #[.slice A4 s3.L.length c5, .int .i64 vt63] 33 (0, 0))]] (L82.trans (L86.trans L90)) HS92) (fun hl_ => Bool.noConfusion (show true = false from hl_))), ?_⟩
        refine takeG [23, 24, 25] (n := 5) (fuel := 2) (l' := #[true, true, true, true, true, true, true, true, true, true, true, true, true, true, true, true, true, true, true, true, true, true, true, true, true, true, false, false]) (a' := ⟨#[.pointer (some ⟨b1, 0, none⟩), .int .i64 vid7, .agg #[.int .i64 here8.X, .int .i64 here8.Y, .int .i64 here8.Z], undef, undef, .pointer (some ⟨b11, 0, none⟩), .pointer (some ⟨b15, 0, none⟩), .int .i64 (rd ([1000, 90000, 150000] : List Int) vt28), undef, .slice (some ⟨b21, 0, none⟩) ([1000, 90000, 150000] : List Int).length 3, .pointer (some ⟨b1, 0, none⟩), .int .i64 vt28, .pointer (some ⟨b21, 0 + (vt28 : Int).toNat * 1, none⟩), .int .i64 (rd ([1000, 90000, 150000] : List Int) vt28), .pointer (some ⟨b11, 0, none⟩), .int .i64 here8.X, .pointer (some ⟨b1, 0, none⟩), .int .i64 (rd ([1000, 90000, 150000] : List Int) vt28), .int .i64 (w64 (0 - (rd ([1000, 90000, 150000] : List Int) vt28))), .int .i64 (rd ([1000, 90000, 150000] : List Int) vt28), .int .i64 vt48, .int .i64 (w64 (here8.X + vt48)), .pointer (some ⟨b11, 1, none⟩), .int .i64 here8.Y, .pointer (some ⟨b1, 0, none⟩), .int .i64 (rd ([1000, 90000, 150000] : List Int) vt28), .int .i64 (w64 (0 - (rd ([1000, 90000, 150000] : List Int) vt28))), .int .i64 (rd ([1000, 90000, 150000] : List Int) vt28), .int .i64 vt55, .int .i64 (w64 (here8.Y + vt55)), .pointer (some ⟨b11, 2, none⟩), .int .i64 here8.Z, .pointer (some ⟨b1, 0, none⟩), .int .i64 (rd ([1000, 90000, 150000] : List Int) vt28), .int .i64 (w64 (0 - (rd ([1000, 90000, 150000] : List Int) vt28))), .int .i64 (rd ([1000, 90000, 150000] : List Int) vt28), .int .i64 vt62, .int .i64 (w64 (Int.tdiv vt62 3)), .int .i64 (w64 (here8.Z + (w64 (Int.tdiv vt62 3)))), .agg #[.int .i64 (w64 (here8.X + vt48)), .int .i64 (w64 (here8.Y + vt55)), .int .i64 (w64 (here8.Z + (w64 (Int.tdiv vt62 3))))], undef, undef, undef, undef, undef, undef, undef, undef], []⟩) rfl (by kernel_rfl) (by kernel_rfl) (by kernel_rfl) hnp (Sg.g1 (Sx.of [[(b1, .cells #[.slice A4 s3.L.length c5, .int .i64 vt63] 33 (0, 0))]] (L82.trans (L86.trans L90)) HS92) (fun hl_ => Bool.noConfusion (show true = false from hl_))) ?_
        refine takeGE 26 (by kernel_rfl) rfl (by kernel_rfl) (does_alloc (z := Value.agg #[.int .i64 0, .int .i64 0, .int .i64 0]) (cs := #[.int .i64 0, .int .i64 0, .int .i64 0]) rfl (by kernel_rfl) rfl HS92 ?_)
        intro b93 W94 HS95
        refine ⟨(Sg.g1 (Sx.of [[(b93, .cells #[.int .i64 0, .int .i64 0, .int .i64 0] 23 (0, 0))], [(b1, .cells #[.slice A4 s3.L.length c5, .int .i64 vt63] 33 (0, 0))]] (L82.trans (L86.trans L90)) HS95) (fun hl_ => Bool.noConfusion (show true = false from hl_))), ?_⟩
        refine takeGE 27 (by kernel_rfl) rfl (by kernel_rfl) (does_store (n := 3) (vs := [.int .i64 (w64 (here8.X + vt48)), .int .i64 (w64 (here8.Y + vt55)), .int .i64 (w64 (here8.Z + (w64 (Int.tdiv vt62 3))))]) (cs' := #[.int .i64 (w64 (here8.X + vt48)), .int .i64 (w64 (here8.Y + vt55)), .int .i64 (w64 (here8.Z + (w64 (Int.tdiv vt62 3))))]) rfl (by kernel_rfl) (by kernel_rfl : _ = Value.pointer (some ⟨b93, 0, none⟩)) (by kernel_rfl : _ = Value.agg #[.int .i64 (w64 (here8.X + vt48)), .int .i64 (w64 (here8.Y + vt55)), .int .i64 (w64 (here8.Z + (w64 (Int.tdiv vt62 3))))]) rfl rfl (by intro u_ hu_; simp only [List.mem_cons, List.not_mem_nil, or_false] at hu_; rcases hu_ with rfl | rfl | rfl <;> rfl) HS95 (Nat.le_of_ble_eq_true rfl) (by kernel_rfl) ?_)
        intro W97 HS98
        refine ⟨(Sg.g1 (Sx.of [[(b93, .cells #[.int .i64 (w64 (here8.X + vt48)), .int .i64 (w64 (here8.Y + vt55)), .int .i64 (w64 (here8.Z + (w64 (Int.tdiv vt62 3))))] 23 (0, 0))], [(b1, .cells #[.slice A4 s3.L.length c5, .int .i64 vt63] 33 (0, 0))]] (L82.trans (L86.trans L90)) HS98) (fun hl_ => Bool.noConfusion (show true = false from hl_))), ?_⟩
        refine hR77 _ _ ?_
        exact J78 f81 f85 f89 b93 W97 _ L82 L86 L90 HS98 (by kernel_rfl)
      · refine does_alloc (z := Value.agg #[.int .i64 0, .int .i64 0, .int .i64 0]) (cs := #[.int .i64 0, .int .i64 0, .int .i64 0]) rfl (by kernel_rfl) rfl HS88 ?_
        intro b99 W100 HS101
        refine ⟨(Sg.g1 (Sx.of [[(b99, .cells #[.int .i64 0, .int .i64 0, .int .i64 0] 23 (0, 0))], [(b1, .cells #[.slice A4 s3.L.length c5, .int .i64 vt56] 33 (0, 0))]] (L82.trans L86) HS101) (fun hl_ => Bool.noConfusion (show true = false from hl_))), ?_⟩
        have HS103 := HS101.u1
        refine takeGE 22 (by kernel_rfl) rfl (by kernel_rfl) (does_call (f := 14) (args := #[.pointer (some ⟨b1, 0, none⟩), .int .i64 (w64 (0 - (rd ([1000, 90000, 150000] : List Int) vt28))), .int .i64 (rd ([1000, 90000, 150000] : List Int) vt28)]) (by kernel_rfl) (spymake_Stream_Range.calls k b1 A4 c5 (⟨s3.L, vt56⟩ : S_Stream) (w64 (0 - (rd ([1000, 90000, 150000] : List Int) vt28))) (rd ([1000, 90000, 150000] : List Int) vt28) HS103 (HR6.mono (L32.trans (L82.trans L86))) vt62 vt63 hc64) ?_)
        rintro _ W106 ⟨f104, rfl, L105, HS107⟩
        refine ⟨_, rfl, ?_⟩
        refine ⟨(Sg.g1 (Sx.of [[(b1, .cells #[.slice A4 s3.L.length c5, .int .i64 vt63] 33 (0, 0))], [(b99, .cells #[.int .i64 0, .int .i64 0, .int .i64 0] 23 (0, 0))]] (L82.trans (L86.trans L105)) HS107) (fun hl_ => Bool.noConfusion (show true = false from hl_))), ?_⟩
        refine takeG [23, 24, 25] (n := 4) (fuel := 1) (l' := #[true, true, true, true, true, true, true, true, true, true, true, true, true, true, true, true, true, true, true, true, true, true, true, true, true, true, true, false]) (a' := ⟨#[.pointer (some ⟨b1, 0, none⟩), .int .i64 vid7, .agg #[.int .i64 here8.X, .int .i64 here8.Y, .int .i64 here8.Z], undef, undef, .pointer (some ⟨b11, 0, none⟩), .pointer (some ⟨b15, 0, none⟩), .int .i64 (rd ([1000, 90000, 150000] : List Int) vt28), .pointer (some ⟨b99, 0, none⟩), .slice (some ⟨b21, 0, none⟩) ([1000, 90000, 150000] : List Int).length 3, .pointer (some ⟨b1, 0, none⟩), .int .i64 vt28, .pointer (some ⟨b21, 0 + (vt28 : Int).toNat * 1, none⟩), .int .i64 (rd ([1000, 90000, 150000] : List Int) vt28), .pointer (some ⟨b11, 0, none⟩), .int .i64 here8.X, .pointer (some ⟨b1, 0, none⟩), .int .i64 (rd ([1000, 90000, 150000] : List Int) vt28), .int .i64 (w64 (0 - (rd ([1000, 90000, 150000] : List Int) vt28))), .int .i64 (rd ([1000, 90000, 150000] : List Int) vt28), .int .i64 vt48, .int .i64 (w64 (here8.X + vt48)), .pointer (some ⟨b11, 1, none⟩), .int .i64 here8.Y, .pointer (some ⟨b1, 0, none⟩), .int .i64 (rd ([1000, 90000, 150000] : List Int) vt28), .int .i64 (w64 (0 - (rd ([1000, 90000, 150000] : List Int) vt28))), .int .i64 (rd ([1000, 90000, 150000] : List Int) vt28), .int .i64 vt55, .int .i64 (w64 (here8.Y + vt55)), .pointer (some ⟨b11, 2, none⟩), .int .i64 here8.Z, .pointer (some ⟨b1, 0, none⟩), .int .i64 (rd ([1000, 90000, 150000] : List Int) vt28), .int .i64 (w64 (0 - (rd ([1000, 90000, 150000] : List Int) vt28))), .int .i64 (rd ([1000, 90000, 150000] : List Int) vt28), .int .i64 vt62, .int .i64 (w64 (Int.tdiv vt62 3)), .int .i64 (w64 (here8.Z + (w64 (Int.tdiv vt62 3)))), .agg #[.int .i64 (w64 (here8.X + vt48)), .int .i64 (w64 (here8.Y + vt55)), .int .i64 (w64 (here8.Z + (w64 (Int.tdiv vt62 3))))], undef, undef, undef, undef, undef, undef, undef, undef], []⟩) rfl (by kernel_rfl) (by kernel_rfl) (by kernel_rfl) hnp (Sg.g1 (Sx.of [[(b1, .cells #[.slice A4 s3.L.length c5, .int .i64 vt63] 33 (0, 0))], [(b99, .cells #[.int .i64 0, .int .i64 0, .int .i64 0] 23 (0, 0))]] (L82.trans (L86.trans L105)) HS107) (fun hl_ => Bool.noConfusion (show true = false from hl_))) ?_
        have HS108 := HS107.u1
        refine takeGE 27 (by kernel_rfl) rfl (by kernel_rfl) (does_store (n := 3) (vs := [.int .i64 (w64 (here8.X + vt48)), .int .i64 (w64 (here8.Y + vt55)), .int .i64 (w64 (here8.Z + (w64 (Int.tdiv vt62 3))))]) (cs' := #[.int .i64 (w64 (here8.X + vt48)), .int .i64 (w64 (here8.Y + vt55)), .int .i64 (w64 (here8.Z + (w64 (Int.tdiv vt62 3))))]) rfl (by kernel_rfl) (by kernel_rfl : _ = Value.pointer (some ⟨b99, 0, none⟩)) (by kernel_rfl : _ = Value.agg #[.int .i64 (w64 (here8.X + vt48)), .int .i64 (w64 (here8.Y + vt55)), .int .i64 (w64 (here8.Z + (w64 (Int.tdiv vt62 3))))]) rfl rfl (by intro u_ hu_; simp only [List.mem_cons, List.not_mem_nil, or_false] at hu_; rcases hu_ with rfl | rfl | rfl <;> rfl) HS108 (Nat.le_of_ble_eq_true rfl) (by kernel_rfl) ?_)
        intro W109 HS110
        refine ⟨(Sg.g1 (Sx.of [[(b99, .cells #[.int .i64 (w64 (here8.X + vt48)), .int .i64 (w64 (here8.Y + vt55)), .int .i64 (w64 (here8.Z + (w64 (Int.tdiv vt62 3))))] 23 (0, 0))], [(b1, .cells #[.slice A4 s3.L.length c5, .int .i64 vt63] 33 (0, 0))]] (L82.trans (L86.trans L105)) HS110) (fun hl_ => Bool.noConfusion (show true = false from hl_))), ?_⟩
        refine hR77 _ _ ?_
        exact J78 f81 f85 f104 b99 W109 _ L82 L86 L105 HS110 (by kernel_rfl)
    · refine does_alloc (z := Value.agg #[.int .i64 0, .int .i64 0, .int .i64 0]) (cs := #[.int .i64 0, .int .i64 0, .int .i64 0]) rfl (by kernel_rfl) rfl HS84 ?_
      intro b111 W112 HS113
      refine ⟨(Sg.g1 (Sx.of [[(b111, .cells #[.int .i64 0, .int .i64 0, .int .i64 0] 23 (0, 0))], [(b1, .cells #[.slice A4 s3.L.length c5, .int .i64 vt49] 33 (0, 0))]] L82 HS113) (fun hl_ => Bool.noConfusion (show true = false from hl_))), ?_⟩
      have HS115 := HS113.u1
      refine takeGE 14 (by kernel_rfl) rfl (by kernel_rfl) (does_call (f := 14) (args := #[.pointer (some ⟨b1, 0, none⟩), .int .i64 (w64 (0 - (rd ([1000, 90000, 150000] : List Int) vt28))), .int .i64 (rd ([1000, 90000, 150000] : List Int) vt28)]) (by kernel_rfl) (spymake_Stream_Range.calls k b1 A4 c5 (⟨s3.L, vt49⟩ : S_Stream) (w64 (0 - (rd ([1000, 90000, 150000] : List Int) vt28))) (rd ([1000, 90000, 150000] : List Int) vt28) HS115 (HR6.mono (L32.trans L82)) vt55 vt56 hc57) ?_)
      rintro _ W118 ⟨f116, rfl, L117, HS119⟩
      refine ⟨_, rfl, ?_⟩
      refine ⟨(Sg.g1 (Sx.of [[(b1, .cells #[.slice A4 s3.L.length c5, .int .i64 vt56] 33 (0, 0))], [(b111, .cells #[.int .i64 0, .int .i64 0, .int .i64 0] 23 (0, 0))]] (L82.trans L117) HS119) (fun hl_ => Bool.noConfusion (show true = false from hl_))), ?_⟩
      refine takeG [15] (n := 6) (fuel := 5) (l' := #[true, true, true, true, true, true, true, true, true, true, true, true, true, true, true, true, true, true, true, true, true, true, false, false, false, false, true, false]) (a' := ⟨#[.pointer (some ⟨b1, 0, none⟩), .int .i64 vid7, .agg #[.int .i64 here8.X, .int .i64 here8.Y, .int .i64 here8.Z], undef, undef, .pointer (some ⟨b11, 0, none⟩), .pointer (some ⟨b15, 0, none⟩), .int .i64 (rd ([1000, 90000, 150000] : List Int) vt28), .pointer (some ⟨b111, 0, none⟩), .slice (some ⟨b21, 0, none⟩) ([1000, 90000, 150000] : List Int).length 3, .pointer (some ⟨b1, 0, none⟩), .int .i64 vt28, .pointer (some ⟨b21, 0 + (vt28 : Int).toNat * 1, none⟩), .int .i64 (rd ([1000, 90000, 150000] : List Int) vt28), .pointer (some ⟨b11, 0, none⟩), .int .i64 here8.X, .pointer (some ⟨b1, 0, none⟩), .int .i64 (rd ([1000, 90000, 150000] : List Int) vt28), .int .i64 (w64 (0 - (rd ([1000, 90000, 150000] : List Int) vt28))), .int .i64 (rd ([1000, 90000, 150000] : List Int) vt28), .int .i64 vt48, .int .i64 (w64 (here8.X + vt48)), .pointer (some ⟨b11, 1, none⟩), .int .i64 here8.Y, .pointer (some ⟨b1, 0, none⟩), .int .i64 (rd ([1000, 90000, 150000] : List Int) vt28), .int .i64 (w64 (0 - (rd ([1000, 90000, 150000] : List Int) vt28))), .int .i64 (rd ([1000, 90000, 150000] : List Int) vt28), .int .i64 vt55, .int .i64 (w64 (here8.Y + vt55)), .pointer (some ⟨b11, 2, none⟩), .int .i64 here8.Z, .pointer (some ⟨b1, 0, none⟩), .int .i64 (rd ([1000, 90000, 150000] : List Int) vt28), .int .i64 (w64 (0 - (rd ([1000, 90000, 150000] : List Int) vt28))), .int .i64 (rd ([1000, 90000, 150000] : List Int) vt28), undef, undef, undef, undef, undef, undef, undef, undef, undef, undef, undef, undef], []⟩) rfl (by kernel_rfl) (by kernel_rfl) (by kernel_rfl) hnp (Sg.g1 (Sx.of [[(b1, .cells #[.slice A4 s3.L.length c5, .int .i64 vt56] 33 (0, 0))], [(b111, .cells #[.int .i64 0, .int .i64 0, .int .i64 0] 23 (0, 0))]] (L82.trans L117) HS119) (fun hl_ => Bool.noConfusion (show true = false from hl_))) ?_
      refine takeGE 22 (by kernel_rfl) rfl (by kernel_rfl) (does_call (f := 14) (args := #[.pointer (some ⟨b1, 0, none⟩), .int .i64 (w64 (0 - (rd ([1000, 90000, 150000] : List Int) vt28))), .int .i64 (rd ([1000, 90000, 150000] : List Int) vt28)]) (by kernel_rfl) (spymake_Stream_Range.calls k b1 A4 c5 (⟨s3.L, vt56⟩ : S_Stream) (w64 (0 - (rd ([1000, 90000, 150000] : List Int) vt28))) (rd ([1000, 90000, 150000] : List Int) vt28) HS119 (HR6.mono (L32.trans (L82.trans L117))) vt62 vt63 hc64) ?_)
      rintro _ W122 ⟨f120, rfl, L121, HS123⟩
      refine ⟨_, rfl, ?_⟩
      refine ⟨(Sg.g1 (Sx.of [[(b1, .cells #[.slice A4 s3.L.length c5, .int .i64 vt63] 33 (0, 0))], [(b111, .cells #[.int .i64 0, .int .i64 0, .int .i64 0] 23 (0, 0))]] (L82.trans (L117.trans L121)) HS123) (fun hl_ => Bool.noConfusion (show true = false from hl_))), ?_⟩
      refine takeG [23, 24, 25] (n := 4) (fuel := 1) (l' := #[true, true, true, true, true, true, true, true, true, true, true, true, true, true, true, true, true, true, true, true, true, true, true, true, true, true, true, false]) (a' := ⟨#[.pointer (some ⟨b1, 0, none⟩), .int .i64 vid7, .agg #[.int .i64 here8.X, .int .i64 here8.Y, .int .i64 here8.Z], undef, undef, .pointer (some ⟨b11, 0, none⟩), .pointer (some ⟨b15, 0, none⟩), .int .i64 (rd ([1000, 90000, 150000] : List Int) vt28), .pointer (some ⟨b111, 0, none⟩), .slice (some ⟨b21, 0, none⟩) ([1000, 90000, 150000] : List Int).length 3, .pointer (some ⟨b1, 0, none⟩), .int .i64 vt28, .pointer (some ⟨b21, 0 + (vt28 : Int).toNat * 1, none⟩), .int .i64 (rd ([1000, 90000, 150000] : List Int) vt28), .pointer (some ⟨b11, 0, none⟩), .int .i64 here8.X, .pointer (some ⟨b1, 0, none⟩), .int .i64 (rd ([1000, 90000, 150000] : List Int) vt28), .int .i64 (w64 (0 - (rd ([1000, 90000, 150000] : List Int) vt28))), .int .i64 (rd ([1000, 90000, 150000] : List Int) vt28), .int .i64 vt48, .int .i64 (w64 (here8.X + vt48)), .pointer (some ⟨b11, 1, none⟩), .int .i64 here8.Y, .pointer (some ⟨b1, 0, none⟩), .int .i64 (rd ([1000, 90000, 150000] : List Int) vt28), .int .i64 (w64 (0 - (rd ([1000, 90000, 150000] : List Int) vt28))), .int .i64 (rd ([1000, 90000, 150000] : List Int) vt28), .int .i64 vt55, .int .i64 (w64 (here8.Y + vt55)), .pointer (some ⟨b11, 2, none⟩), .int .i64 here8.Z, .pointer (some ⟨b1, 0, none⟩), .int .i64 (rd ([1000, 90000, 150000] : List Int) vt28), .int .i64 (w64 (0 - (rd ([1000, 90000, 150000] : List Int) vt28))), .int .i64 (rd ([1000, 90000, 150000] : List Int) vt28), .int .i64 vt62, .int .i64 (w64 (Int.tdiv vt62 3)), .int .i64 (w64 (here8.Z + (w64 (Int.tdiv vt62 3)))), .agg #[.int .i64 (w64 (here8.X + vt48)), .int .i64 (w64 (here8.Y + vt55)), .int .i64 (w64 (here8.Z + (w64 (Int.tdiv vt62 3))))], undef, undef, undef, undef, undef, undef, undef, undef], []⟩) rfl (by kernel_rfl) (by kernel_rfl) (by kernel_rfl) hnp (Sg.g1 (Sx.of [[(b1, .cells #[.slice A4 s3.L.length c5, .int .i64 vt63] 33 (0, 0))], [(b111, .cells #[.int .i64 0, .int .i64 0, .int .i64 0] 23 (0, 0))]] (L82.trans (L117.trans L121)) HS123) (fun hl_ => Bool.noConfusion (show true = false from hl_))) ?_
      have HS124 := HS123.u1
      refine takeGE 27 (by kernel_rfl) rfl (by kernel_rfl) (does_store (n := 3) (vs := [.int .i64 (w64 (here8.X + vt48)), .int .i64 (w64 (here8.Y + vt55)), .int .i64 (w64 (here8.Z + (w64 (Int.tdiv vt62 3))))]) (cs' := #[.int .i64 (w64 (here8.X + vt48)), .int .i64 (w64 (here8.Y + vt55)), .int .i64 (w64 (here8.Z + (w64 (Int.tdiv vt62 3))))]) rfl (by kernel_rfl) (by kernel_rfl : _ = Value.pointer (some ⟨b111, 0, none⟩)) (by kernel_rfl : _ = Value.agg #[.int .i64 (w64 (here8.X + vt48)), .int .i64 (w64 (here8.Y + vt55)), .int .i64 (w64 (here8.Z + (w64 (Int.tdiv vt62 3))))]) rfl rfl (by intro u_ hu_; simp only [List.mem_cons, List.not_mem_nil, or_false] at hu_; rcases hu_ with rfl | rfl | rfl <;> rfl) HS124 (Nat.le_of_ble_eq_true rfl) (by kernel_rfl) ?_)
      intro W125 HS126
      refine ⟨(Sg.g1 (Sx.of [[(b111, .cells #[.int .i64 (w64 (here8.X + vt48)), .int .i64 (w64 (here8.Y + vt55)), .int .i64 (w64 (here8.Z + (w64 (Int.tdiv vt62 3))))] 23 (0, 0))], [(b1, .cells #[.slice A4 s3.L.length c5, .int .i64 vt63] 33 (0, 0))]] (L82.trans (L117.trans L121)) HS126) (fun hl_ => Bool.noConfusion (show true = false from hl_))), ?_⟩
      refine hR77 _ _ ?_
      exact J78 f81 f116 f120 b111 W125 _ L82 L117 L121 HS126 (by kernel_rfl)
  · refine does_alloc (z := Value.agg #[.int .i64 0, .int .i64 0, .int .i64 0]) (cs := #[.int .i64 0, .int .i64 0, .int .i64 0]) rfl (by kernel_rfl) rfl HS47 ?_
    intro b127 W128 HS129
    refine ⟨(Sg.g1 (Sx.of [[(b127, .cells #[.int .i64 0, .int .i64 0, .int .i64 0] 23 (0, 0))], [(b1, .cells #[.slice A4 s3.L.length c5, .int .i64 vt29] 33 (0, 0))]] (FM.le.refl _) HS129) (fun _ => St.only [[(b127, .cells #[.int .i64 0, .int .i64 0, .int .i64 0] 23 (0, 0))]] HS129 (FM.le.refl _))), ?_⟩
    have HS131 := HS129.u1
    refine takeGE 6 (by kernel_rfl) rfl (by kernel_rfl) (does_call (f := 14) (args := #[.pointer (some ⟨b1, 0, none⟩), .int .i64 (w64 (0 - (rd ([1000, 90000, 150000] : List Int) vt28))), .int .i64 (rd ([1000, 90000, 150000] : List Int) vt28)]) (by kernel_rfl) (spymake_Stream_Range.calls k b1 A4 c5 (⟨s3.L, vt29⟩ : S_Stream) (w64 (0 - (rd ([1000, 90000, 150000] : List Int) vt28))) (rd ([1000, 90000, 150000] : List Int) vt28) HS131 (HR6.mono L32) vt48 vt49 hc50) ?_)
    rintro _ W134 ⟨f132, rfl, L133, HS135⟩
    refine ⟨_, rfl, ?_⟩
    refine ⟨(Sg.g1 (Sx.of [[(b1, .cells #[.slice A4 s3.L.length c5, .int .i64 vt49] 33 (0, 0))], [(b127, .cells #[.int .i64 0, .int .i64 0, .int .i64 0] 23 (0, 0))]] L133 HS135) (fun hl_ => Bool.noConfusion (show true = false from hl_))), ?_⟩
    refine takeG [7] (n := 8) (fuel := 7) (l' := #[true, true, true, true, true, true, true, true, true, true, true, true, true, true, false, false, true, true, true, true, true, true, false, false, false, false, true, false]) (a' := ⟨#[.pointer (some ⟨b1, 0, none⟩), .int .i64 vid7, .agg #[.int .i64 here8.X, .int .i64 here8.Y, .int .i64 here8.Z], undef, undef, .pointer (some ⟨b11, 0, none⟩), .pointer (some ⟨b15, 0, none⟩), .int .i64 (rd ([1000, 90000, 150000] : List Int) vt28), .pointer (some ⟨b127, 0, none⟩), .slice (some ⟨b21, 0, none⟩) ([1000, 90000, 150000] : List Int).length 3, .pointer (some ⟨b1, 0, none⟩), .int .i64 vt28, .pointer (some ⟨b21, 0 + (vt28 : Int).toNat * 1, none⟩), .int .i64 (rd ([1000, 90000, 150000] : List Int) vt28), .pointer (some ⟨b11, 0, none⟩), .int .i64 here8.X, .pointer (some ⟨b1, 0, none⟩), .int .i64 (rd ([1000, 90000, 150000] : List Int) vt28), .int .i64 (w64 (0 - (rd ([1000, 90000, 150000] : List Int) vt28))), .int .i64 (rd ([1000, 90000, 150000] : List Int) vt28), .int .i64 vt48, .int .i64 (w64 (here8.X + vt48)), .pointer (some ⟨b11, 1, none⟩), .int .i64 here8.Y, .pointer (some ⟨b1, 0, none⟩), .int .i64 (rd ([1000, 90000, 150000] : List Int) vt28), .int .i64 (w64 (0 - (rd ([1000, 90000, 150000] : List Int) vt28))), .int .i64 (rd ([1000, 90000, 150000] : List Int) vt28), undef, undef, .pointer (some ⟨b11, 2, none⟩), .int .i64 here8.Z, .pointer (some ⟨b1, 0, none⟩), .int .i64 (rd ([1000, 90000, 150000] : List Int) vt28), .int .i64 (w64 (0 - (rd ([1000, 90000, 150000] : List Int) vt28))), .int .i64 (rd ([1000, 90000, 150000] : List Int) vt28), undef, undef, undef, undef, undef, undef, undef, undef, undef, undef, undef, undef], []⟩) rfl (by kernel_rfl) (by kernel_rfl) (by kernel_rfl) hnp (Sg.g1 (Sx.of [[(b1, .cells #[.slice A4 s3.L.length c5, .int .i64 vt49] 33 (0, 0))], [(b127, .cells #[.int .i64 0, .int .i64 0, .int .i64 0] 23 (0, 0))]] L133 HS135) (fun hl_ => Bool.noConfusion (show true = false from hl_))) ?_
    refine takeGE 14 (by kernel_rfl) rfl (by kernel_rfl) (does_call (f := 14) (args := #[.pointer (some ⟨b1, 0, none⟩), .int .i64 (w64 (0 - (rd ([1000, 90000, 150000] : List Int) vt28))), .int .i64 (rd ([1000, 90000, 150000] : List Int) vt28)]) (by kernel_rfl) (spymake_Stream_Range.calls k b1 A4 c5 (⟨s3.L, vt49⟩ : S_Stream) (w64 (0 - (rd ([1000, 90000, 150000] : List Int) vt28))) (rd ([1000, 90000, 150000] : List Int) vt28) HS135 (HR6.mono (L32.trans L133)) vt55 vt56 hc57) ?_)
    rintro _ W138 ⟨f136, rfl, L137, HS139⟩
    refine ⟨_, rfl, ?_⟩
    refine ⟨(Sg.g1 (Sx.of [[(b1, .cells #[.slice A4 s3.L.length c5, .int .i64 vt56] 33 (0, 0))], [(b127, .cells #[.int .i64 0, .int .i64 0, .int .i64 0] 23 (0, 0))]] (L133.trans L137) HS139) (fun hl_ => Bool.noConfusion (show true = false from hl_))), ?_⟩
    refine takeG [15] (n := 6) (fuel := 5) (l' := #[true, true, true, true, true, true, true, true, true, true, true, true, true, true, true, true, true, true, true, true, true, true, false, false, false, false, true, false]) (a' := ⟨#[.pointer (some ⟨b1, 0, none⟩), .int .i64 vid7, .agg #[.int .i64 here8.X, .int .i64 here8.Y, .int .i64 here8.Z], undef, undef, .pointer (some ⟨b11, 0, none⟩), .pointer (some ⟨b15, 0, none⟩), .int .i64 (rd ([1000, 90000, 150000] : List Int) vt28), .pointer (some ⟨b127, 0, none⟩), .slice (some ⟨b21, 0, none⟩) ([1000, 90000, 150000] : List Int).length 3, .pointer (some ⟨b1, 0, none⟩), .int .i64 vt28, .pointer (some ⟨b21, 0 + (vt28 : Int).toNat * 1, none⟩), .int .i64 (rd ([1000, 90000, 150000] : List Int) vt28), .pointer (some ⟨b11, 0, none⟩), .int .i64 here8.X, .pointer (some ⟨b1, 0, none⟩), .int .i64 (rd ([1000, 90000, 150000] : List Int) vt28), .int .i64 (w64 (0 - (rd ([1000, 90000, 150000] : List Int) vt28))), .int .i64 (rd ([1000, 90000, 150000] : List Int) vt28), .int .i64 vt48, .int .i64 (w64 (here8.X + vt48)), .pointer (some ⟨b11, 1, none⟩), .int .i64 here8.Y, .pointer (some ⟨b1, 0, none⟩), .int .i64 (rd ([1000, 90000, 150000] : List Int) vt28), .int .i64 (w64 (0 - (rd ([1000, 90000, 150000] : List Int) vt28))), .int .i64 (rd ([1000, 90000, 150000] : List Int) vt28), .int .i64 vt55, .int .i64 (w64 (here8.Y + vt55)), .pointer (some ⟨b11, 2, none⟩), .int .i64 here8.Z, .pointer (some ⟨b1, 0, none⟩), .int .i64 (rd ([1000, 90000, 150000] : List Int) vt28), .int .i64 (w64 (0 - (rd ([1000, 90000, 150000] : List Int) vt28))), .int .i64 (rd ([1000, 90000, 150000] : List Int) vt28), undef, undef, undef, undef, undef, undef, undef, undef, undef, undef, undef, undef], []⟩) rfl (by kernel_rfl) (by kernel_rfl) (by kernel_rfl) hnp (Sg.g1 (Sx.of [[(b1, .cells #[.slice A4 s3.L.length c5, .int .i64 vt56] 33 (0, 0))], [(b127, .cells #[.int .i64 0, .int .i64 0, .int .i64 0] 23 (0, 0))]] (L133.trans L137) HS139) (fun hl_ => Bool.noConfusion (show true = false from hl_))) ?_
    refine takeGE 22 (by kernel_rfl) rfl (by kernel_rfl) (does_call (f := 14) (args := #[.pointer (some ⟨b1, 0, none⟩), .int .i64 (w64 (0 - (rd ([1000, 90000, 150000] : List Int) vt28))), .int .i64 (rd ([1000, 90000, 150000] : List Int) vt28)]) (by kernel_rfl) (spymake_Stream_Range.calls k b1 A4 c5 (⟨s3.L, vt56⟩ : S_Stream) (w64 (0 - (rd ([1000, 90000, 150000] : List Int) vt28))) (rd ([1000, 90000, 150000] : List Int) vt28) HS139 (HR6.mono (L32.trans (L133.trans L137))) vt62 vt63 hc64) ?_)
    rintro _ W142 ⟨f140, rfl, L141, HS143⟩
    refine ⟨_, rfl, ?_⟩
    refine ⟨(Sg.g1 (Sx.of [[(b1, .cells #[.slice A4 s3.L.length c5, .int .i64 vt63] 33 (0, 0))], [(b127, .cells #[.int .i64 0, .int .i64 0, .int .i64 0] 23 (0, 0))]] (L133.trans (L137.trans L141)) HS143) (fun hl_ => Bool.noConfusion (show true = false from hl_))), ?_⟩
    refine takeG [23, 24, 25] (n := 4) (fuel := 1) (l' := #[true, true, true, true, true, true, true, true, true, true, true, true, true, true, true, true, true, true, true, true, true, true, true, true, true, true, true, false]) (a' := ⟨#[.pointer (some ⟨b1, 0, none⟩), .int .i64 vid7, .agg #[.int .i64 here8.X, .int .i64 here8.Y, .int .i64 here8.Z], undef, undef, .pointer (some ⟨b11, 0, none⟩), .pointer (some ⟨b15, 0, none⟩), .int .i64 (rd ([1000, 90000, 150000] : List Int) vt28), .pointer (some ⟨b127, 0, none⟩), .slice (some ⟨b21, 0, none⟩) ([1000, 90000, 150000] : List Int).length 3, .pointer (some ⟨b1, 0, none⟩), .int .i64 vt28, .pointer (some ⟨b21, 0 + (vt28 : Int).toNat * 1, none⟩), .int .i64 (rd ([1000, 90000, 150000] : List Int) vt28), .pointer (some ⟨b11, 0, none⟩), .int .i64 here8.X, .pointer (some ⟨b1, 0, none⟩), .int .i64 (rd ([1000, 90000, 150000] : List Int) vt28), .int .i64 (w64 (0 - (rd ([1000, 90000, 150000] : List Int) vt28))), .int .i64 (rd ([1000, 90000, 150000] : List Int) vt28), .int .i64 vt48, .int .i64 (w64 (here8.X + vt48)), .pointer (some ⟨b11, 1, none⟩), .int .i64 here8.Y, .pointer (some ⟨b1, 0, none⟩), .int .i64 (rd ([1000, 90000, 150000] : List Int) vt28), .int .i64 (w64 (0 - (rd ([1000, 90000, 150000] : List Int) vt28))), .int .i64 (rd ([1000, 90000, 150000] : List Int) vt28), .int .i64 vt55, .int .i64 (w64 (here8.Y + vt55)), .pointer (some ⟨b11, 2, none⟩), .int .i64 here8.Z, .pointer (some ⟨b1, 0, none⟩), .int .i64 (rd ([1000, 90000, 150000] : List Int) vt28), .int .i64 (w64 (0 - (rd ([1000, 90000, 150000] : List Int) vt28))), .int .i64 (rd ([1000, 90000, 150000] : List Int) vt28), .int .i64 vt62, .int .i64 (w64 (Int.tdiv vt62 3)), .int .i64 (w64 (here8.Z + (w64 (Int.tdiv vt62 3)))), .agg #[.int .i64 (w64 (here8.X + vt48)), .int .i64 (w64 (here8.Y + vt55)), .int .i64 (w64 (here8.Z + (w64 (Int.tdiv vt62 3))))], undef, undef, undef, undef, undef, undef, undef, undef], []⟩) rfl (by kernel_rfl) (by kernel_rfl) (by kernel_rfl) hnp (Sg.g1 (Sx.of [[(b1, .cells #[.slice A4 s3.L.length c5, .int .i64 vt63] 33 (0, 0))], [(b127, .cells #[.int .i64 0, .int .i64 0, .int .i64 0] 23 (0, 0))]] (L133.trans (L137.trans L141)) HS143) (fun hl_ => Bool.noConfusion (show true = false from hl_))) ?_
    have HS144 := HS143.u1
    refine takeGE 27 (by kernel_rfl) rfl (by kernel_rfl) (does_store (n := 3) (vs := [.int .i64 (w64 (here8.X + vt48)), .int .i64 (w64 (here8.Y + vt55)), .int .i64 (w64 (here8.Z + (w64 (Int.tdiv vt62 3))))]) (cs' := #[.int .i64 (w64 (here8.X + vt48)), .int .i64 (w64 (here8.Y + vt55)), .int .i64 (w64 (here8.Z + (w64 (Int.tdiv vt62 3))))]) rfl (by kernel_rfl) (by kernel_rfl : _ = Value.pointer (some ⟨b127, 0, none⟩)) (by kernel_rfl : _ = Value.agg #[.int .i64 (w64 (here8.X + vt48)), .int .i64 (w64 (here8.Y + vt55)), .int .i64 (w64 (here8.Z + (w64 (Int.tdiv vt62 3))))]) rfl rfl (by intro u_ hu_; simp only [List.mem_cons, List.not_mem_nil, or_false] at hu_; rcases hu_ with rfl | rfl | rfl <;> rfl) HS144 (Nat.le_of_ble_eq_true rfl) (by kernel_rfl) ?_)
    intro W145 HS146
    refine ⟨(Sg.g1 (Sx.of [[(b127, .cells #[.int .i64 (w64 (here8.X + vt48)), .int .i64 (w64 (here8.Y + vt55)), .int .i64 (w64 (here8.Z + (w64 (Int.tdiv vt62 3))))] 23 (0, 0))], [(b1, .cells #[.slice A4 s3.L.length c5, .int .i64 vt63] 33 (0, 0))]] (L133.trans (L137.trans L141)) HS146) (fun hl_ => Bool.noConfusion (show true = false from hl_))), ?_⟩
    refine hR77 _ _ ?_
    exact J78 f132 f136 f140 b127 W145 _ L133 L137 L141 HS146 (by kernel_rfl)

set_option maxRecDepth 100000 in
set_option maxHeartbeats 4000000 in
theorem sky_within.calls (k : Nat)  (v1 : S_Vec) (most2 : Int) {t w : World} {f : FM} {H : List Seg} (HS : St t w f (H)) (r1 : Bool) (h : sky_within k v1 most2 = some r1) :
    Calls Try.prog 26 #[.agg #[.int .i64 v1.X, .int .i64 v1.Y, .int .i64 v1.Z], .int .i64 most2] w (fun e w' => ∃ (g : FM), e = .returned (Value.bool r1) ∧ FM.le f g ∧ St t w' g (H)) := by
  unfold sky_within at h
  refine enter Try.func26 rfl (tm := #[.agg #[.int .i64 v1.X, .int .i64 v1.Y, .int .i64 v1.Z], .int .i64 most2, undef, undef, undef, undef, undef, undef, undef, undef, undef, undef, undef, undef, undef, undef, undef, undef, undef, undef, undef, undef, undef, undef, undef, undef, undef]) (by kernel_rfl) ?_
  intro B hret hnor hnp
  refine wp_seq_k (fun K3 hK4 => ?_)
  refine wp_region_lit ?_
  refine seqK rfl (does_box (cs := #[.int .i64 v1.X, .int .i64 v1.Y, .int .i64 v1.Z]) rfl (by kernel_rfl : _ = Value.agg #[.int .i64 v1.X, .int .i64 v1.Y, .int .i64 v1.Z]) rfl HS ?_)
  intro b5 W6 HS7
  refine seqS1 (a' := ⟨#[.agg #[.int .i64 v1.X, .int .i64 v1.Y, .int .i64 v1.Z], .int .i64 most2, .pointer (some ⟨b5, 0, none⟩), undef, .bool false, undef, undef, undef, undef, undef, undef, undef, undef, undef, undef, undef, undef, undef, undef, undef, undef, undef, undef, undef, undef, undef, undef], []⟩) (by kernel_rfl) ?_
  refine wpList_nil ?_
  refine hK4 _ _ ?_
  refine wp_seq_k (fun K9 hK10 => ?_)
  refine wp_seq_k (fun K11 hK12 => ?_)
  refine wp_region_lit ?_
  refine seqL1 (by kernel_rfl) ?_
  refine seqK rfl (does_run (run_load rfl Try.underlying2 rfl (by kernel_rfl : _ = Value.pointer (some ⟨b5, 0, none⟩)) (HS7.cell 0)) ?_)
  refine seqL1 (by kernel_rfl) ?_
  refine seqK rfl (does_run (run_load rfl Try.underlying2 rfl (by kernel_rfl : _ = Value.pointer (some ⟨b5, 1, none⟩)) (HS7.cell 1)) ?_)
  refine seqL1 (by kernel_rfl) ?_
  refine seqK rfl (does_run (run_load rfl Try.underlying2 rfl (by kernel_rfl : _ = Value.pointer (some ⟨b5, 2, none⟩)) (HS7.cell 2)) ?_)
  refine seqS2 (a' := ⟨#[.agg #[.int .i64 v1.X, .int .i64 v1.Y, .int .i64 v1.Z], .int .i64 most2, .pointer (some ⟨b5, 0, none⟩), undef, .bool false, undef, undef, .pointer (some ⟨b5, 0, none⟩), .int .i64 v1.X, .pointer (some ⟨b5, 1, none⟩), .int .i64 v1.Y, .pointer (some ⟨b5, 2, none⟩), .int .i64 v1.Z, .agg #[.int .i64 v1.X, .int .i64 v1.Y, .int .i64 v1.Z], .int .i64 0, undef, undef, undef, undef, undef, undef, undef, undef, undef, undef, undef, undef], []⟩) (by kernel_rfl) ?_
  refine wpList_nil ?_
  refine hK12 _ _ ?_
  refine blockK (fun B13 hx14 hn15 hr16 ho17 hp18 => ?_)
  have hq_ := bind_some h; clear h; obtain ⟨o19, hv61, h⟩ := hq_
  have JR63 : ∀ z_, some (Sum.inl z_) = some o19 → some z_ = some r1 := by
    intro z_ e_; injection e_ with e_; subst e_; exact h
  have J62 : ∀ (f56 : FM) (j60 : Nat → Value) (W58 : World) (a_ : Act), FM.le f f56 → some (Sum.inr ()) = some o19 → St t W58 f56 ([(b5, .cells #[.int .i64 v1.X, .int .i64 v1.Y, .int .i64 v1.Z] 23 (0, 0))] :: H) → a_ = ⟨#[.agg #[.int .i64 v1.X, .int .i64 v1.Y, .int .i64 v1.Z], .int .i64 most2, .pointer (some ⟨b5, 0, none⟩), undef, (j60 0), undef, (j60 1), .pointer (some ⟨b5, 0, none⟩), .int .i64 v1.X, .pointer (some ⟨b5, 1, none⟩), .int .i64 v1.Y, .pointer (some ⟨b5, 2, none⟩), .int .i64 v1.Z, .agg #[.int .i64 v1.X, .int .i64 v1.Y, .int .i64 v1.Z], (j60 2), (j60 3), (j60 4), (j60 5), (j60 6), (j60 7), (j60 8), (j60 9), (j60 10), (j60 11), (j60 12), (j60 13), (j60 14)], []⟩ → K9 a_ W58 := by
    intro f56 j60 W58 a_ L57 hj64 HS59  hfr_; subst hfr_
    injection hj64 with hj64; subst hj64; try dsimp only at h
    simp only [Sum.elim_inr] at h
    refine hK10 _ _ ?_
    refine wp_seq_k (fun K65 hK66 => ?_)
    refine wp_region_lit ?_
    refine seqS1 (a' := ⟨#[.agg #[.int .i64 v1.X, .int .i64 v1.Y, .int .i64 v1.Z], .int .i64 most2, .pointer (some ⟨b5, 0, none⟩), undef, .bool true, undef, (j60 1), .pointer (some ⟨b5, 0, none⟩), .int .i64 v1.X, .pointer (some ⟨b5, 1, none⟩), .int .i64 v1.Y, .pointer (some ⟨b5, 2, none⟩), .int .i64 v1.Z, .agg #[.int .i64 v1.X, .int .i64 v1.Y, .int .i64 v1.Z], (j60 2), (j60 3), (j60 4), (j60 5), (j60 6), (j60 7), (j60 8), (j60 9), (j60 10), (j60 11), (j60 12), (j60 13), (j60 14)], []⟩) (by kernel_rfl) ?_
    refine wpList_nil ?_
    refine hK66 _ _ ?_
    refine wp_ret ?_
    refine hret _ _ ?_
    refine ends_still (v := Value.bool true) (by kernel_rfl) (by kernel_rfl) ?_
    have HS69 := HS59.drop
    injection h with h
    subst h
    exact ⟨f56, rfl, L57, HS69⟩
  clear h; have h := hv61; clear hv61
  refine loopK (fun n_ a_ w_ => ∃ (f23 : FM) (x28 : Int) (j27 : Nat → Value), FM.le f f23 ∧ St t w_ f23 ([(b5, .cells #[.int .i64 v1.X, .int .i64 v1.Y, .int .i64 v1.Z] 23 (0, 0))] :: H) ∧ sky_within.l0 k v1 most2 n_ x28 = some o19 ∧ a_ = ⟨#[.agg #[.int .i64 v1.X, .int .i64 v1.Y, .int .i64 v1.Z], .int .i64 most2, .pointer (some ⟨b5, 0, none⟩), undef, (j27 0), undef, (j27 1), .pointer (some ⟨b5, 0, none⟩), .int .i64 v1.X, .pointer (some ⟨b5, 1, none⟩), .int .i64 v1.Y, .pointer (some ⟨b5, 2, none⟩), .int .i64 v1.Z, .agg #[.int .i64 v1.X, .int .i64 v1.Y, .int .i64 v1.Z], .int .i64 x28, (j27 2), (j27 3), (j27 4), (j27 5), (j27 6), (j27 7), (j27 8), (j27 9), (j27 10), (j27 11), (j27 12), (j27 13)], []⟩) k ⟨f, 0, (fun i_ => [Value.bool false, undef, undef, undef, undef, undef, undef, undef, undef, undef, undef, undef, undef, undef].getD i_ undef), (FM.le.refl _), HS7, h, (by kernel_rfl)⟩ ?_
  clear h
  rintro n22 _ W25 ⟨f23, x28, j27, L24, HS26, h, rfl⟩ K20 hK21
  obtain _ | n22 := n22
  · exact nomatch h
  simp only [sky_within.l0] at h
  refine wp_seq_k (fun K29 hK30 => ?_)
  refine wp_region_lit ?_
  refine seqS1 (a' := ⟨#[.agg #[.int .i64 v1.X, .int .i64 v1.Y, .int .i64 v1.Z], .int .i64 most2, .pointer (some ⟨b5, 0, none⟩), undef, (j27 0), undef, (j27 1), .pointer (some ⟨b5, 0, none⟩), .int .i64 v1.X, .pointer (some ⟨b5, 1, none⟩), .int .i64 v1.Y, .pointer (some ⟨b5, 2, none⟩), .int .i64 v1.Z, .agg #[.int .i64 v1.X, .int .i64 v1.Y, .int .i64 v1.Z], .int .i64 x28, .bool (decide (x28 < 3)), (j27 3), (j27 4), (j27 5), (j27 6), (j27 7), (j27 8), (j27 9), (j27 10), (j27 11), (j27 12), (j27 13)], []⟩) (by kernel_rfl) ?_
  refine wpList_nil ?_
  refine hK30 _ _ ?_
  refine wp_seq_k (fun K31 hK32 => ?_)
  have hq_ := ite_some h; clear h; rcases hq_ with ⟨c34, h⟩ | ⟨c34, h⟩
  · have c34 : x28 < 3 := c34
    refine wpRwI 15 (x := (decide (x28 < 3))) (v := true) (by kernel_rfl) (decide_eq_true c34) ?_
    refine condT (by kernel_rfl) ?_
    refine wp_skip ?_
    refine hK32 _ _ ?_
    refine wp_seq_k (fun K35 hK36 => ?_)
    refine blockK (fun B37 hx38 hn39 hr40 ho41 hp42 => ?_)
    refine wp_seq_k (fun K44 hK45 => ?_)
    refine wp_region_lit ?_
    have hq_ := guard_some h; clear h; obtain ⟨c46, h⟩ := hq_
    have c46 : 0 ≤ x28 := c46
    refine seqK rfl (does_run (run_arr_int rfl Try.underlying50 (by kernel_rfl) Try.underlying2 (by kernel_rfl : _ = Value.agg #[.int .i64 v1.X, .int .i64 v1.Y, .int .i64 v1.Z]) (by kernel_rfl : _ = Value.int .i64 x28) (xs := [v1.X, v1.Y, v1.Z]) rfl c46 c34 rfl W25) ?_)
    refine seqS1 (a' := ⟨#[.agg #[.int .i64 v1.X, .int .i64 v1.Y, .int .i64 v1.Z], .int .i64 most2, .pointer (some ⟨b5, 0, none⟩), undef, (j27 0), undef, .int .i64 (rd [v1.X, v1.Y, v1.Z] x28), .pointer (some ⟨b5, 0, none⟩), .int .i64 v1.X, .pointer (some ⟨b5, 1, none⟩), .int .i64 v1.Y, .pointer (some ⟨b5, 2, none⟩), .int .i64 v1.Z, .agg #[.int .i64 v1.X, .int .i64 v1.Y, .int .i64 v1.Z], .int .i64 x28, .bool true, .int .i64 (rd [v1.X, v1.Y, v1.Z] x28), (j27 4), (j27 5), (j27 6), (j27 7), (j27 8), (j27 9), (j27 10), (j27 11), (j27 12), (j27 13)], []⟩) (by kernel_rfl) ?_
    refine wpList_nil ?_
    refine hK45 _ _ ?_
    refine wp_seq_k (fun K47 hK48 => ?_)
    refine wp_region_lit ?_
    refine seqS5 (a' := ⟨#[.agg #[.int .i64 v1.X, .int .i64 v1.Y, .int .i64 v1.Z], .int .i64 most2, .pointer (some ⟨b5, 0, none⟩), undef, (j27 0), undef, .int .i64 (rd [v1.X, v1.Y, v1.Z] x28), .pointer (some ⟨b5, 0, none⟩), .int .i64 v1.X, .pointer (some ⟨b5, 1, none⟩), .int .i64 v1.Y, .pointer (some ⟨b5, 2, none⟩), .int .i64 v1.Z, .agg #[.int .i64 v1.X, .int .i64 v1.Y, .int .i64 v1.Z], .int .i64 x28, .bool true, .int .i64 (rd [v1.X, v1.Y, v1.Z] x28), .int .i64 (rd [v1.X, v1.Y, v1.Z] x28), .int .i64 most2, .int .i64 (w64 (0 - most2)), .bool (decide ((rd [v1.X, v1.Y, v1.Z] x28) < (w64 (0 - most2)))), .bool (decide ((rd [v1.X, v1.Y, v1.Z] x28) < (w64 (0 - most2)))), (j27 9), (j27 10), (j27 11), (j27 12), (j27 13)], []⟩) (by kernel_rfl) ?_
    have hq_ := ite_some h; clear h; rcases hq_ with ⟨c49, h⟩ | ⟨c49, h⟩
    · have c49 : (rd [v1.X, v1.Y, v1.Z] x28) < (w64 (0 - most2)) := c49
      refine seqRwI 20 (x := (decide ((rd [v1.X, v1.Y, v1.Z] x28) < (w64 (0 - most2))))) (v := true) (by kernel_rfl) (decide_eq_true c49) ?_
      refine seqRwI 21 (x := (decide ((rd [v1.X, v1.Y, v1.Z] x28) < (w64 (0 - most2))))) (v := true) (by kernel_rfl) (decide_eq_true c49) ?_
      refine seqS4 (a' := ⟨#[.agg #[.int .i64 v1.X, .int .i64 v1.Y, .int .i64 v1.Z], .int .i64 most2, .pointer (some ⟨b5, 0, none⟩), undef, (j27 0), undef, .int .i64 (rd [v1.X, v1.Y, v1.Z] x28), .pointer (some ⟨b5, 0, none⟩), .int .i64 v1.X, .pointer (some ⟨b5, 1, none⟩), .int .i64 v1.Y, .pointer (some ⟨b5, 2, none⟩), .int .i64 v1.Z, .agg #[.int .i64 v1.X, .int .i64 v1.Y, .int .i64 v1.Z], .int .i64 x28, .bool true, .int .i64 (rd [v1.X, v1.Y, v1.Z] x28), .int .i64 (rd [v1.X, v1.Y, v1.Z] x28), .int .i64 most2, .int .i64 (w64 (0 - most2)), .bool true, .bool true, undef, undef, undef, .bool true, (j27 13)], []⟩) (by kernel_rfl) ?_
      refine wpList_nil ?_
      refine hK48 _ _ ?_
      refine condT (by kernel_rfl) ?_
      refine wp_seq_k (fun K50 hK51 => ?_)
      refine wp_region_lit ?_
      refine seqS1 (a' := ⟨#[.agg #[.int .i64 v1.X, .int .i64 v1.Y, .int .i64 v1.Z], .int .i64 most2, .pointer (some ⟨b5, 0, none⟩), undef, .bool false, undef, .int .i64 (rd [v1.X, v1.Y, v1.Z] x28), .pointer (some ⟨b5, 0, none⟩), .int .i64 v1.X, .pointer (some ⟨b5, 1, none⟩), .int .i64 v1.Y, .pointer (some ⟨b5, 2, none⟩), .int .i64 v1.Z, .agg #[.int .i64 v1.X, .int .i64 v1.Y, .int .i64 v1.Z], .int .i64 x28, .bool true, .int .i64 (rd [v1.X, v1.Y, v1.Z] x28), .int .i64 (rd [v1.X, v1.Y, v1.Z] x28), .int .i64 most2, .int .i64 (w64 (0 - most2)), .bool true, .bool true, undef, undef, undef, .bool true, (j27 13)], []⟩) (by kernel_rfl) ?_
      refine wpList_nil ?_
      refine hK51 _ _ ?_
      refine wp_ret ?_
      refine hr40 _ _ ?_
      refine hr16 _ _ ?_
      refine hret _ _ ?_
      refine ends_still (v := Value.bool false) (by kernel_rfl) (by kernel_rfl) ?_
      have HS67 := HS26.drop
      replace h := JR63 _ h
      injection h with h
      subst h
      exact ⟨f23, rfl, L24, HS67⟩
    · have c49 : ¬ ((rd [v1.X, v1.Y, v1.Z] x28) < (w64 (0 - most2))) := c49
      refine seqRwI 20 (x := (decide ((rd [v1.X, v1.Y, v1.Z] x28) < (w64 (0 - most2))))) (v := false) (by kernel_rfl) (decide_eq_false c49) ?_
      refine seqRwI 21 (x := (decide ((rd [v1.X, v1.Y, v1.Z] x28) < (w64 (0 - most2))))) (v := false) (by kernel_rfl) (decide_eq_false c49) ?_
      refine seqS4 (a' := ⟨#[.agg #[.int .i64 v1.X, .int .i64 v1.Y, .int .i64 v1.Z], .int .i64 most2, .pointer (some ⟨b5, 0, none⟩), undef, (j27 0), undef, .int .i64 (rd [v1.X, v1.Y, v1.Z] x28), .pointer (some ⟨b5, 0, none⟩), .int .i64 v1.X, .pointer (some ⟨b5, 1, none⟩), .int .i64 v1.Y, .pointer (some ⟨b5, 2, none⟩), .int .i64 v1.Z, .agg #[.int .i64 v1.X, .int .i64 v1.Y, .int .i64 v1.Z], .int .i64 x28, .bool true, .int .i64 (rd [v1.X, v1.Y, v1.Z] x28), .int .i64 (rd [v1.X, v1.Y, v1.Z] x28), .int .i64 most2, .int .i64 (w64 (0 - most2)), .bool false, .bool false, .int .i64 (rd [v1.X, v1.Y, v1.Z] x28), .int .i64 most2, .bool (decide ((rd [v1.X, v1.Y, v1.Z] x28) > most2)), .bool (decide ((rd [v1.X, v1.Y, v1.Z] x28) > most2)), (j27 13)], []⟩) (by kernel_rfl) ?_
      refine wpList_nil ?_
      refine hK48 _ _ ?_
      have hq_ := ite_some h; clear h; rcases hq_ with ⟨c53, h⟩ | ⟨c53, h⟩
      · have c53 : (rd [v1.X, v1.Y, v1.Z] x28) > most2 := c53
        refine wpRwI 24 (x := (decide ((rd [v1.X, v1.Y, v1.Z] x28) > most2))) (v := true) (by kernel_rfl) (decide_eq_true c53) ?_
        refine wpRwI 25 (x := (decide ((rd [v1.X, v1.Y, v1.Z] x28) > most2))) (v := true) (by kernel_rfl) (decide_eq_true c53) ?_
        refine condT (by kernel_rfl) ?_
        refine wp_seq_k (fun K54 hK55 => ?_)
        refine wp_region_lit ?_
        refine seqS1 (a' := ⟨#[.agg #[.int .i64 v1.X, .int .i64 v1.Y, .int .i64 v1.Z], .int .i64 most2, .pointer (some ⟨b5, 0, none⟩), undef, .bool false, undef, .int .i64 (rd [v1.X, v1.Y, v1.Z] x28), .pointer (some ⟨b5, 0, none⟩), .int .i64 v1.X, .pointer (some ⟨b5, 1, none⟩), .int .i64 v1.Y, .pointer (some ⟨b5, 2, none⟩), .int .i64 v1.Z, .agg #[.int .i64 v1.X, .int .i64 v1.Y, .int .i64 v1.Z], .int .i64 x28, .bool true, .int .i64 (rd [v1.X, v1.Y, v1.Z] x28), .int .i64 (rd [v1.X, v1.Y, v1.Z] x28), .int .i64 most2, .int .i64 (w64 (0 - most2)), .bool false, .bool false, .int .i64 (rd [v1.X, v1.Y, v1.Z] x28), .int .i64 most2, .bool true, .bool true, (j27 13)], []⟩) (by kernel_rfl) ?_
        refine wpList_nil ?_
        refine hK55 _ _ ?_
        refine wp_ret ?_
        refine hr40 _ _ ?_
        refine hr16 _ _ ?_
        refine hret _ _ ?_
        refine ends_still (v := Value.bool false) (by kernel_rfl) (by kernel_rfl) ?_
        have HS68 := HS26.drop
        replace h := JR63 _ h
        injection h with h
        subst h
        exact ⟨f23, rfl, L24, HS68⟩
      · have c53 : ¬ ((rd [v1.X, v1.Y, v1.Z] x28) > most2) := c53
        refine wpRwI 24 (x := (decide ((rd [v1.X, v1.Y, v1.Z] x28) > most2))) (v := false) (by kernel_rfl) (decide_eq_false c53) ?_
        refine wpRwI 25 (x := (decide ((rd [v1.X, v1.Y, v1.Z] x28) > most2))) (v := false) (by kernel_rfl) (decide_eq_false c53) ?_
        refine condF (by kernel_rfl) ?_
        refine wp_skip ?_
        refine hn39 _ _ ?_
        refine hK36 _ _ ?_
        refine wp_region_lit ?_
        refine seqS2 (a' := ⟨#[.agg #[.int .i64 v1.X, .int .i64 v1.Y, .int .i64 v1.Z], .int .i64 most2, .pointer (some ⟨b5, 0, none⟩), undef, (j27 0), undef, .int .i64 (rd [v1.X, v1.Y, v1.Z] x28), .pointer (some ⟨b5, 0, none⟩), .int .i64 v1.X, .pointer (some ⟨b5, 1, none⟩), .int .i64 v1.Y, .pointer (some ⟨b5, 2, none⟩), .int .i64 v1.Z, .agg #[.int .i64 v1.X, .int .i64 v1.Y, .int .i64 v1.Z], .int .i64 (w64 (x28 + 1)), .bool true, .int .i64 (rd [v1.X, v1.Y, v1.Z] x28), .int .i64 (rd [v1.X, v1.Y, v1.Z] x28), .int .i64 most2, .int .i64 (w64 (0 - most2)), .bool false, .bool false, .int .i64 (rd [v1.X, v1.Y, v1.Z] x28), .int .i64 most2, .bool false, .bool false, .int .i64 (w64 (x28 + 1))], []⟩) (by kernel_rfl) ?_
        refine wpList_nil ?_
        refine hK21 n22 _ _ (Nat.lt_succ_self _) ?_
        exact ⟨f23, (w64 (x28 + 1)), (fun i_ => [(j27 0), Value.int .i64 (rd [v1.X, v1.Y, v1.Z] x28), Value.bool true, Value.int .i64 (rd [v1.X, v1.Y, v1.Z] x28), Value.int .i64 (rd [v1.X, v1.Y, v1.Z] x28), Value.int .i64 most2, Value.int .i64 (w64 (0 - most2)), Value.bool false, Value.bool false, Value.int .i64 (rd [v1.X, v1.Y, v1.Z] x28), Value.int .i64 most2, Value.bool false, Value.bool false, Value.int .i64 (w64 (x28 + 1))].getD i_ undef), L24, HS26, h, (by kernel_rfl)⟩
  · have c34 : ¬ (x28 < 3) := c34
    refine wpRwI 15 (x := (decide (x28 < 3))) (v := false) (by kernel_rfl) (decide_eq_false c34) ?_
    refine condF (by kernel_rfl) ?_
    refine wp_exit ?_
    refine hx14 _ _ ?_
    exact J62 f23 (fun i_ => [(j27 0), (j27 1), Value.int .i64 x28, Value.bool false, (j27 3), (j27 4), (j27 5), (j27 6), (j27 7), (j27 8), (j27 9), (j27 10), (j27 11), (j27 12), (j27 13)].getD i_ undef) W25 _ L24 h HS26 (by kernel_rfl)

set_option maxRecDepth 100000 in
set_option maxHeartbeats 4000000 in
theorem sky_moves.calls (k : Nat)  (b1 : S_Body) {t w : World} {f : FM} {H : List Seg} (HS : St t w f (H)) (r1 : Bool) (h : sky_moves k b1 = some r1) :
    Calls Try.prog 33 #[.agg #[.int .i64 b1.ID, .int .i64 b1.Was.X, .int .i64 b1.Was.Y, .int .i64 b1.Was.Z, .int .i64 b1.Here.X, .int .i64 b1.Here.Y, .int .i64 b1.Here.Z, .int .i64 b1.Rate]] w (fun e w' => ∃ (g : FM), e = .returned (Value.bool r1) ∧ FM.le f g ∧ St t w' g (H)) := by
  unfold sky_moves at h
  refine enter Try.func33 rfl (tm := #[.agg #[.int .i64 b1.ID, .int .i64 b1.Was.X, .int .i64 b1.Was.Y, .int .i64 b1.Was.Z, .int .i64 b1.Here.X, .int .i64 b1.Here.Y, .int .i64 b1.Here.Z, .int .i64 b1.Rate], undef, undef, undef, undef, undef, undef, undef, undef, undef, undef]) (by kernel_rfl) ?_
  intro B hret hnor hnp
  refine wp_seq_k (fun K2 hK3 => ?_)
  refine wp_region_lit ?_
  refine seqK rfl (does_box (cs := #[.int .i64 b1.ID, .int .i64 b1.Was.X, .int .i64 b1.Was.Y, .int .i64 b1.Was.Z, .int .i64 b1.Here.X, .int .i64 b1.Here.Y, .int .i64 b1.Here.Z, .int .i64 b1.Rate]) rfl (by kernel_rfl : _ = Value.agg #[.int .i64 b1.ID, .int .i64 b1.Was.X, .int .i64 b1.Was.Y, .int .i64 b1.Was.Z, .int .i64 b1.Here.X, .int .i64 b1.Here.Y, .int .i64 b1.Here.Z, .int .i64 b1.Rate]) rfl HS ?_)
  intro b4 W5 HS6
  refine seqS1 (a' := ⟨#[.agg #[.int .i64 b1.ID, .int .i64 b1.Was.X, .int .i64 b1.Was.Y, .int .i64 b1.Was.Z, .int .i64 b1.Here.X, .int .i64 b1.Here.Y, .int .i64 b1.Here.Z, .int .i64 b1.Rate], .pointer (some ⟨b4, 0, none⟩), .bool false, undef, undef, undef, undef, undef, undef, undef, undef], []⟩) (by kernel_rfl) ?_
  refine wpList_nil ?_
  refine hK3 _ _ ?_
  refine wp_seq_k (fun K8 hK9 => ?_)
  refine wp_region_lit ?_
  refine seqL1 (by kernel_rfl) ?_
  refine seqK rfl (does_run (run_loadN (n := 3) rfl Try.underlying23 rfl (by kernel_rfl) (by kernel_rfl : _ = Value.pointer (some ⟨b4, 1, none⟩)) (cs := [.int .i64 b1.Was.X, .int .i64 b1.Was.Y, .int .i64 b1.Was.Z]) rfl (HS6.cells 1 3 _ rfl)) ?_)
  have hq_ := bind_some h; clear h; obtain ⟨vt10, hc11, h⟩ := hq_
  refine seqK rfl (does_call (f := 26) (args := #[.agg #[.int .i64 b1.Was.X, .int .i64 b1.Was.Y, .int .i64 b1.Was.Z], .int .i64 4194304]) (by kernel_rfl) (sky_within.calls k b1.Was 4194304 HS6 vt10 hc11) ?_)
  rintro _ W14 ⟨f12, rfl, L13, HS15⟩
  refine ⟨_, rfl, ?_⟩
  refine seqS1 (a' := ⟨#[.agg #[.int .i64 b1.ID, .int .i64 b1.Was.X, .int .i64 b1.Was.Y, .int .i64 b1.Was.Z, .int .i64 b1.Here.X, .int .i64 b1.Here.Y, .int .i64 b1.Here.Z, .int .i64 b1.Rate], .pointer (some ⟨b4, 0, none⟩), .bool false, .pointer (some ⟨b4, 1, none⟩), .agg #[.int .i64 b1.Was.X, .int .i64 b1.Was.Y, .int .i64 b1.Was.Z], .bool vt10, .bool vt10, undef, undef, undef, undef], []⟩) (by kernel_rfl) ?_
  have hq_ := ite_some h; clear h; rcases hq_ with ⟨c16, h⟩ | ⟨c16, h⟩
  · have c16 : vt10 = true := c16
    refine seqRwI 5 (x := vt10) (v := true) (by kernel_rfl) c16 ?_
    refine seqRwI 6 (x := vt10) (v := true) (by kernel_rfl) c16 ?_
    refine seqL1 (by kernel_rfl) ?_
    refine seqG (by kernel_rfl) (does_run (run_loadN (n := 3) rfl Try.underlying23 rfl (by kernel_rfl) (by kernel_rfl : _ = Value.pointer (some ⟨b4, 4, none⟩)) (cs := [.int .i64 b1.Here.X, .int .i64 b1.Here.Y, .int .i64 b1.Here.Z]) rfl (HS15.cells 4 3 _ rfl)) ?_)
    have hq_ := bind_some h; clear h; obtain ⟨vt17, hc18, h⟩ := hq_
    refine seqG (by kernel_rfl) (does_call (f := 26) (args := #[.agg #[.int .i64 b1.Here.X, .int .i64 b1.Here.Y, .int .i64 b1.Here.Z], .int .i64 4194304]) (by kernel_rfl) (sky_within.calls k b1.Here 4194304 HS15 vt17 hc18) ?_)
    rintro _ W21 ⟨f19, rfl, L20, HS22⟩
    refine ⟨_, rfl, ?_⟩
    refine seqS2 (a' := ⟨#[.agg #[.int .i64 b1.ID, .int .i64 b1.Was.X, .int .i64 b1.Was.Y, .int .i64 b1.Was.Z, .int .i64 b1.Here.X, .int .i64 b1.Here.Y, .int .i64 b1.Here.Z, .int .i64 b1.Rate], .pointer (some ⟨b4, 0, none⟩), .bool vt17, .pointer (some ⟨b4, 1, none⟩), .agg #[.int .i64 b1.Was.X, .int .i64 b1.Was.Y, .int .i64 b1.Was.Z], .bool true, .bool true, .pointer (some ⟨b4, 4, none⟩), .agg #[.int .i64 b1.Here.X, .int .i64 b1.Here.Y, .int .i64 b1.Here.Z], .bool vt17, .bool vt17], []⟩) (by kernel_rfl) ?_
    refine wpList_nil ?_
    refine hK9 _ _ ?_
    refine wp_ret ?_
    refine hret _ _ ?_
    refine ends_still (v := Value.bool vt17) (by kernel_rfl) (by kernel_rfl) ?_
    have HS23 := HS22.drop
    injection h with h
    subst h
    exact ⟨f19, rfl, (L13.trans L20), HS23⟩
  · have c16 : ¬ (vt10 = true) := c16
    refine seqRwI 5 (x := vt10) (v := false) (by kernel_rfl) (Bool.eq_false_iff.mpr c16) ?_
    refine seqRwI 6 (x := vt10) (v := false) (by kernel_rfl) (Bool.eq_false_iff.mpr c16) ?_
    refine seqS5 (a' := ⟨#[.agg #[.int .i64 b1.ID, .int .i64 b1.Was.X, .int .i64 b1.Was.Y, .int .i64 b1.Was.Z, .int .i64 b1.Here.X, .int .i64 b1.Here.Y, .int .i64 b1.Here.Z, .int .i64 b1.Rate], .pointer (some ⟨b4, 0, none⟩), .bool false, .pointer (some ⟨b4, 1, none⟩), .agg #[.int .i64 b1.Was.X, .int .i64 b1.Was.Y, .int .i64 b1.Was.Z], .bool false, .bool false, undef, undef, undef, .bool false], []⟩) (by kernel_rfl) ?_
    refine wpList_nil ?_
    refine hK9 _ _ ?_
    refine wp_ret ?_
    refine hret _ _ ?_
    refine ends_still (v := Value.bool false) (by kernel_rfl) (by kernel_rfl) ?_
    have HS24 := HS15.drop
    injection h with h
    subst h
    exact ⟨f12, rfl, L13, HS24⟩

set_option maxRecDepth 100000 in
set_option maxHeartbeats 4000000 in
theorem bits_Mul64.calls (k : Nat)  (x1 : Int) (y2 : Int) {t w : World} {f : FM} {H : List Seg} (HS : St t w f (H)) (r1 : Int) (r2 : Int) (h : bits_Mul64 k x1 y2 = some (r1, r2)) :
    Calls Try.prog 54 #[.int .u64 x1, .int .u64 y2] w (fun e w' => ∃ (g : FM), e = .returned (Value.tuple #[.int .u64 r1, .int .u64 r2]) ∧ FM.le f g ∧ St t w' g (H)) := by
  unfold bits_Mul64 at h
  refine enter Try.func54 rfl (tm := #[.int .u64 x1, .int .u64 y2, undef, undef, undef, undef, undef, undef, undef, undef, undef, undef, undef, undef, undef, undef, undef, undef, undef, undef, undef, undef, undef, undef, undef, undef, undef, undef, undef, undef, undef, undef, undef, undef, undef, undef, undef, undef, undef, undef, undef, undef, undef, undef, undef, undef, undef, undef, undef, undef, undef]) (by kernel_rfl) ?_
  intro B hret hnor hnp
  refine wp_seq_k (fun K3 hK4 => ?_)
  refine wp_region_lit ?_
  refine seqS2 (a' := ⟨#[.int .u64 x1, .int .u64 y2, undef, undef, .int .u64 0, .int .u64 0, undef, undef, undef, undef, undef, undef, undef, undef, undef, undef, undef, undef, undef, undef, undef, undef, undef, undef, undef, undef, undef, undef, undef, undef, undef, undef, undef, undef, undef, undef, undef, undef, undef, undef, undef, undef, undef, undef, undef, undef, undef, undef, undef, undef, undef], []⟩) (by kernel_rfl) ?_
  refine wpList_nil ?_
  refine hK4 _ _ ?_
  refine wp_seq_k (fun K5 hK6 => ?_)
  refine wp_region_lit ?_
  refine seqS3 (a' := ⟨#[.int .u64 x1, .int .u64 y2, undef, undef, .int .u64 0, .int .u64 0, .int .u64 (Go.bits .and .u64 x1 4294967295), undef, undef, undef, undef, undef, undef, undef, .int .u64 x1, .int .u64 (Go.bits .and .u64 x1 4294967295), undef, undef, undef, undef, undef, undef, undef, undef, undef, undef, undef, undef, undef, undef, undef, undef, undef, undef, undef, undef, undef, undef, undef, undef, undef, undef, undef, undef, undef, undef, undef, undef, undef, undef, undef], []⟩) (by kernel_rfl) ?_
  refine wpList_nil ?_
  refine hK6 _ _ ?_
  refine wp_seq_k (fun K7 hK8 => ?_)
  refine wp_region_lit ?_
  refine seqS3 (a' := ⟨#[.int .u64 x1, .int .u64 y2, undef, undef, .int .u64 0, .int .u64 0, .int .u64 (Go.bits .and .u64 x1 4294967295), .int .u64 (shr x1 32), undef, undef, undef, undef, undef, undef, .int .u64 x1, .int .u64 (Go.bits .and .u64 x1 4294967295), .int .u64 x1, .int .u64 (shr x1 32), undef, undef, undef, undef, undef, undef, undef, undef, undef, undef, undef, undef, undef, undef, undef, undef, undef, undef, undef, undef, undef, undef, undef, undef, undef, undef, undef, undef, undef, undef, undef, undef, undef], []⟩) (by kernel_rfl) ?_
  refine wpList_nil ?_
  refine hK8 _ _ ?_
  refine wp_seq_k (fun K9 hK10 => ?_)
  refine wp_region_lit ?_
  refine seqS3 (a' := ⟨#[.int .u64 x1, .int .u64 y2, undef, undef, .int .u64 0, .int .u64 0, .int .u64 (Go.bits .and .u64 x1 4294967295), .int .u64 (shr x1 32), .int .u64 (Go.bits .and .u64 y2 4294967295), undef, undef, undef, undef, undef, .int .u64 x1, .int .u64 (Go.bits .and .u64 x1 4294967295), .int .u64 x1, .int .u64 (shr x1 32), .int .u64 y2, .int .u64 (Go.bits .and .u64 y2 4294967295), undef, undef, undef, undef, undef, undef, undef, undef, undef, undef, undef, undef, undef, undef, undef, undef, undef, undef, undef, undef, undef, undef, undef, undef, undef, undef, undef, undef, undef, undef, undef], []⟩) (by kernel_rfl) ?_
  refine wpList_nil ?_
  refine hK10 _ _ ?_
  refine wp_seq_k (fun K11 hK12 => ?_)
  refine wp_region_lit ?_
  refine seqS3 (a' := ⟨#[.int .u64 x1, .int .u64 y2, undef, undef, .int .u64 0, .int .u64 0, .int .u64 (Go.bits .and .u64 x1 4294967295), .int .u64 (shr x1 32), .int .u64 (Go.bits .and .u64 y2 4294967295), .int .u64 (shr y2 32), undef, undef, undef, undef, .int .u64 x1, .int .u64 (Go.bits .and .u64 x1 4294967295), .int .u64 x1, .int .u64 (shr x1 32), .int .u64 y2, .int .u64 (Go.bits .and .u64 y2 4294967295), .int .u64 y2, .int .u64 (shr y2 32), undef, undef, undef, undef, undef, undef, undef, undef, undef, undef, undef, undef, undef, undef, undef, undef, undef, undef, undef, undef, undef, undef, undef, undef, undef, undef, undef, undef, undef], []⟩) (by kernel_rfl) ?_
  refine wpList_nil ?_
  refine hK12 _ _ ?_
  refine wp_seq_k (fun K13 hK14 => ?_)
  refine wp_region_lit ?_
  refine seqS4 (a' := ⟨#[.int .u64 x1, .int .u64 y2, undef, undef, .int .u64 0, .int .u64 0, .int .u64 (Go.bits .and .u64 x1 4294967295), .int .u64 (shr x1 32), .int .u64 (Go.bits .and .u64 y2 4294967295), .int .u64 (shr y2 32), .int .u64 (u64 ((Go.bits .and .u64 x1 4294967295) * (Go.bits .and .u64 y2 4294967295))), undef, undef, undef, .int .u64 x1, .int .u64 (Go.bits .and .u64 x1 4294967295), .int .u64 x1, .int .u64 (shr x1 32), .int .u64 y2, .int .u64 (Go.bits .and .u64 y2 4294967295), .int .u64 y2, .int .u64 (shr y2 32), .int .u64 (Go.bits .and .u64 x1 4294967295), .int .u64 (Go.bits .and .u64 y2 4294967295), .int .u64 (u64 ((Go.bits .and .u64 x1 4294967295) * (Go.bits .and .u64 y2 4294967295))), undef, undef, undef, undef, undef, undef, undef, undef, undef, undef, undef, undef, undef, undef, undef, undef, undef, undef, undef, undef, undef, undef, undef, undef, undef, undef], []⟩) (by kernel_rfl) ?_
  refine wpList_nil ?_
  refine hK14 _ _ ?_
  refine wp_seq_k (fun K15 hK16 => ?_)
  refine wp_region_lit ?_
  refine seqS7 (a' := ⟨#[.int .u64 x1, .int .u64 y2, undef, undef, .int .u64 0, .int .u64 0, .int .u64 (Go.bits .and .u64 x1 4294967295), .int .u64 (shr x1 32), .int .u64 (Go.bits .and .u64 y2 4294967295), .int .u64 (shr y2 32), .int .u64 (u64 ((Go.bits .and .u64 x1 4294967295) * (Go.bits .and .u64 y2 4294967295))), .int .u64 (u64 ((u64 ((shr x1 32) * (Go.bits .and .u64 y2 4294967295))) + (shr (u64 ((Go.bits .and .u64 x1 4294967295) * (Go.bits .and .u64 y2 4294967295))) 32))), undef, undef, .int .u64 x1, .int .u64 (Go.bits .and .u64 x1 4294967295), .int .u64 x1, .int .u64 (shr x1 32), .int .u64 y2, .int .u64 (Go.bits .and .u64 y2 4294967295), .int .u64 y2, .int .u64 (shr y2 32), .int .u64 (Go.bits .and .u64 x1 4294967295), .int .u64 (Go.bits .and .u64 y2 4294967295), .int .u64 (u64 ((Go.bits .and .u64 x1 4294967295) * (Go.bits .and .u64 y2 4294967295))), .int .u64 (shr x1 32), .int .u64 (Go.bits .and .u64 y2 4294967295), .int .u64 (u64 ((shr x1 32) * (Go.bits .and .u64 y2 4294967295))), .int .u64 (u64 ((Go.bits .and .u64 x1 4294967295) * (Go.bits .and .u64 y2 4294967295))), .int .u64 (shr (u64 ((Go.bits .and .u64 x1 4294967295) * (Go.bits .and .u64 y2 4294967295))) 32), .int .u64 (u64 ((u64 ((shr x1 32) * (Go.bits .and .u64 y2 4294967295))) + (shr (u64 ((Go.bits .and .u64 x1 4294967295) * (Go.bits .and .u64 y2 4294967295))) 32))), undef, undef, undef, undef, undef, undef, undef, undef, undef, undef, undef, undef, undef, undef, undef, undef, undef, undef, undef, undef], []⟩) (by kernel_rfl) ?_
  refine wpList_nil ?_
  refine hK16 _ _ ?_
  refine wp_seq_k (fun K17 hK18 => ?_)
  refine wp_region_lit ?_
  refine seqS3 (a' := ⟨#[.int .u64 x1, .int .u64 y2, undef, undef, .int .u64 0, .int .u64 0, .int .u64 (Go.bits .and .u64 x1 4294967295), .int .u64 (shr x1 32), .int .u64 (Go.bits .and .u64 y2 4294967295), .int .u64 (shr y2 32), .int .u64 (u64 ((Go.bits .and .u64 x1 4294967295) * (Go.bits .and .u64 y2 4294967295))), .int .u64 (u64 ((u64 ((shr x1 32) * (Go.bits .and .u64 y2 4294967295))) + (shr (u64 ((Go.bits .and .u64 x1 4294967295) * (Go.bits .and .u64 y2 4294967295))) 32))), .int .u64 (Go.bits .and .u64 (u64 ((u64 ((shr x1 32) * (Go.bits .and .u64 y2 4294967295))) + (shr (u64 ((Go.bits .and .u64 x1 4294967295) * (Go.bits .and .u64 y2 4294967295))) 32))) 4294967295), undef, .int .u64 x1, .int .u64 (Go.bits .and .u64 x1 4294967295), .int .u64 x1, .int .u64 (shr x1 32), .int .u64 y2, .int .u64 (Go.bits .and .u64 y2 4294967295), .int .u64 y2, .int .u64 (shr y2 32), .int .u64 (Go.bits .and .u64 x1 4294967295), .int .u64 (Go.bits .and .u64 y2 4294967295), .int .u64 (u64 ((Go.bits .and .u64 x1 4294967295) * (Go.bits .and .u64 y2 4294967295))), .int .u64 (shr x1 32), .int .u64 (Go.bits .and .u64 y2 4294967295), .int .u64 (u64 ((shr x1 32) * (Go.bits .and .u64 y2 4294967295))), .int .u64 (u64 ((Go.bits .and .u64 x1 4294967295) * (Go.bits .and .u64 y2 4294967295))), .int .u64 (shr (u64 ((Go.bits .and .u64 x1 4294967295) * (Go.bits .and .u64 y2 4294967295))) 32), .int .u64 (u64 ((u64 ((shr x1 32) * (Go.bits .and .u64 y2 4294967295))) + (shr (u64 ((Go.bits .and .u64 x1 4294967295) * (Go.bits .and .u64 y2 4294967295))) 32))), .int .u64 (u64 ((u64 ((shr x1 32) * (Go.bits .and .u64 y2 4294967295))) + (shr (u64 ((Go.bits .and .u64 x1 4294967295) * (Go.bits .and .u64 y2 4294967295))) 32))), .int .u64 (Go.bits .and .u64 (u64 ((u64 ((shr x1 32) * (Go.bits .and .u64 y2 4294967295))) + (shr (u64 ((Go.bits .and .u64 x1 4294967295) * (Go.bits .and .u64 y2 4294967295))) 32))) 4294967295), undef, undef, undef, undef, undef, undef, undef, undef, undef, undef, undef, undef, undef, undef, undef, undef, undef, undef], []⟩) (by kernel_rfl) ?_
  refine wpList_nil ?_
  refine hK18 _ _ ?_
  refine wp_seq_k (fun K19 hK20 => ?_)
  refine wp_region_lit ?_
  refine seqS3 (a' := ⟨#[.int .u64 x1, .int .u64 y2, undef, undef, .int .u64 0, .int .u64 0, .int .u64 (Go.bits .and .u64 x1 4294967295), .int .u64 (shr x1 32), .int .u64 (Go.bits .and .u64 y2 4294967295), .int .u64 (shr y2 32), .int .u64 (u64 ((Go.bits .and .u64 x1 4294967295) * (Go.bits .and .u64 y2 4294967295))), .int .u64 (u64 ((u64 ((shr x1 32) * (Go.bits .and .u64 y2 4294967295))) + (shr (u64 ((Go.bits .and .u64 x1 4294967295) * (Go.bits .and .u64 y2 4294967295))) 32))), .int .u64 (Go.bits .and .u64 (u64 ((u64 ((shr x1 32) * (Go.bits .and .u64 y2 4294967295))) + (shr (u64 ((Go.bits .and .u64 x1 4294967295) * (Go.bits .and .u64 y2 4294967295))) 32))) 4294967295), .int .u64 (shr (u64 ((u64 ((shr x1 32) * (Go.bits .and .u64 y2 4294967295))) + (shr (u64 ((Go.bits .and .u64 x1 4294967295) * (Go.bits .and .u64 y2 4294967295))) 32))) 32), .int .u64 x1, .int .u64 (Go.bits .and .u64 x1 4294967295), .int .u64 x1, .int .u64 (shr x1 32), .int .u64 y2, .int .u64 (Go.bits .and .u64 y2 4294967295), .int .u64 y2, .int .u64 (shr y2 32), .int .u64 (Go.bits .and .u64 x1 4294967295), .int .u64 (Go.bits .and .u64 y2 4294967295), .int .u64 (u64 ((Go.bits .and .u64 x1 4294967295) * (Go.bits .and .u64 y2 4294967295))), .int .u64 (shr x1 32), .int .u64 (Go.bits .and .u64 y2 4294967295), .int .u64 (u64 ((shr x1 32) * (Go.bits .and .u64 y2 4294967295))), .int .u64 (u64 ((Go.bits .and .u64 x1 4294967295) * (Go.bits .and .u64 y2 4294967295))), .int .u64 (shr (u64 ((Go.bits .and .u64 x1 4294967295) * (Go.bits .and .u64 y2 4294967295))) 32), .int .u64 (u64 ((u64 ((shr x1 32) * (Go.bits .and .u64 y2 4294967295))) + (shr (u64 ((Go.bits .and .u64 x1 4294967295) * (Go.bits .and .u64 y2 4294967295))) 32))), .int .u64 (u64 ((u64 ((shr x1 32) * (Go.bits .and .u64 y2 4294967295))) + (shr (u64 ((Go.bits .and .u64 x1 4294967295) * (Go.bits .and .u64 y2 4294967295))) 32))), .int .u64 (Go.bits .and .u64 (u64 ((u64 ((shr x1 32) * (Go.bits .and .u64 y2 4294967295))) + (shr (u64 ((Go.bits .and .u64 x1 4294967295) * (Go.bits .and .u64 y2 4294967295))) 32))) 4294967295), .int .u64 (u64 ((u64 ((shr x1 32) * (Go.bits .and .u64 y2 4294967295))) + (shr (u64 ((Go.bits .and .u64 x1 4294967295) * (Go.bits .and .u64 y2 4294967295))) 32))), .int .u64 (shr (u64 ((u64 ((shr x1 32) * (Go.bits .and .u64 y2 4294967295))) + (shr (u64 ((Go.bits .and .u64 x1 4294967295) * (Go.bits .and .u64 y2 4294967295))) 32))) 32), undef, undef, undef, undef, undef, undef, undef, undef, undef, undef, undef, undef, undef, undef, undef, undef], []⟩) (by kernel_rfl) ?_
  refine wpList_nil ?_
  refine hK20 _ _ ?_
  refine wp_seq_k (fun K21 hK22 => ?_)
  refine wp_region_lit ?_
  refine seqS6 (a' := ⟨#[.int .u64 x1, .int .u64 y2, undef, undef, .int .u64 0, .int .u64 0, .int .u64 (Go.bits .and .u64 x1 4294967295), .int .u64 (shr x1 32), .int .u64 (Go.bits .and .u64 y2 4294967295), .int .u64 (shr y2 32), .int .u64 (u64 ((Go.bits .and .u64 x1 4294967295) * (Go.bits .and .u64 y2 4294967295))), .int .u64 (u64 ((u64 ((shr x1 32) * (Go.bits .and .u64 y2 4294967295))) + (shr (u64 ((Go.bits .and .u64 x1 4294967295) * (Go.bits .and .u64 y2 4294967295))) 32))), .int .u64 (u64 ((Go.bits .and .u64 (u64 ((u64 ((shr x1 32) * (Go.bits .and .u64 y2 4294967295))) + (shr (u64 ((Go.bits .and .u64 x1 4294967295) * (Go.bits .and .u64 y2 4294967295))) 32))) 4294967295) + (u64 ((Go.bits .and .u64 x1 4294967295) * (shr y2 32))))), .int .u64 (shr (u64 ((u64 ((shr x1 32) * (Go.bits .and .u64 y2 4294967295))) + (shr (u64 ((Go.bits .and .u64 x1 4294967295) * (Go.bits .and .u64 y2 4294967295))) 32))) 32), .int .u64 x1, .int .u64 (Go.bits .and .u64 x1 4294967295), .int .u64 x1, .int .u64 (shr x1 32), .int .u64 y2, .int .u64 (Go.bits .and .u64 y2 4294967295), .int .u64 y2, .int .u64 (shr y2 32), .int .u64 (Go.bits .and .u64 x1 4294967295), .int .u64 (Go.bits .and .u64 y2 4294967295), .int .u64 (u64 ((Go.bits .and .u64 x1 4294967295) * (Go.bits .and .u64 y2 4294967295))), .int .u64 (shr x1 32), .int .u64 (Go.bits .and .u64 y2 4294967295), .int .u64 (u64 ((shr x1 32) * (Go.bits .and .u64 y2 4294967295))), .int .u64 (u64 ((Go.bits .and .u64 x1 4294967295) * (Go.bits .and .u64 y2 4294967295))), .int .u64 (shr (u64 ((Go.bits .and .u64 x1 4294967295) * (Go.bits .and .u64 y2 4294967295))) 32), .int .u64 (u64 ((u64 ((shr x1 32) * (Go.bits .and .u64 y2 4294967295))) + (shr (u64 ((Go.bits .and .u64 x1 4294967295) * (Go.bits .and .u64 y2 4294967295))) 32))), .int .u64 (u64 ((u64 ((shr x1 32) * (Go.bits .and .u64 y2 4294967295))) + (shr (u64 ((Go.bits .and .u64 x1 4294967295) * (Go.bits .and .u64 y2 4294967295))) 32))), .int .u64 (Go.bits .and .u64 (u64 ((u64 ((shr x1 32) * (Go.bits .and .u64 y2 4294967295))) + (shr (u64 ((Go.bits .and .u64 x1 4294967295) * (Go.bits .and .u64 y2 4294967295))) 32))) 4294967295), .int .u64 (u64 ((u64 ((shr x1 32) * (Go.bits .and .u64 y2 4294967295))) + (shr (u64 ((Go.bits .and .u64 x1 4294967295) * (Go.bits .and .u64 y2 4294967295))) 32))), .int .u64 (shr (u64 ((u64 ((shr x1 32) * (Go.bits .and .u64 y2 4294967295))) + (shr (u64 ((Go.bits .and .u64 x1 4294967295) * (Go.bits .and .u64 y2 4294967295))) 32))) 32), .int .u64 (Go.bits .and .u64 (u64 ((u64 ((shr x1 32) * (Go.bits .and .u64 y2 4294967295))) + (shr (u64 ((Go.bits .and .u64 x1 4294967295) * (Go.bits .and .u64 y2 4294967295))) 32))) 4294967295), .int .u64 (Go.bits .and .u64 x1 4294967295), .int .u64 (shr y2 32), .int .u64 (u64 ((Go.bits .and .u64 x1 4294967295) * (shr y2 32))), .int .u64 (u64 ((Go.bits .and .u64 (u64 ((u64 ((shr x1 32) * (Go.bits .and .u64 y2 4294967295))) + (shr (u64 ((Go.bits .and .u64 x1 4294967295) * (Go.bits .and .u64 y2 4294967295))) 32))) 4294967295) + (u64 ((Go.bits .and .u64 x1 4294967295) * (shr y2 32))))), undef, undef, undef, undef, undef, undef, undef, undef, undef, undef, undef], []⟩) (by kernel_rfl) ?_
  refine wpList_nil ?_
  refine hK22 _ _ ?_
  refine wp_seq_k (fun K23 hK24 => ?_)
  refine wp_region_lit ?_
  refine seqS9 (a' := ⟨#[.int .u64 x1, .int .u64 y2, undef, undef, .int .u64 (u64 ((u64 ((u64 ((shr x1 32) * (shr y2 32))) + (shr (u64 ((u64 ((shr x1 32) * (Go.bits .and .u64 y2 4294967295))) + (shr (u64 ((Go.bits .and .u64 x1 4294967295) * (Go.bits .and .u64 y2 4294967295))) 32))) 32))) + (shr (u64 ((Go.bits .and .u64 (u64 ((u64 ((shr x1 32) * (Go.bits .and .u64 y2 4294967295))) + (shr (u64 ((Go.bits .and .u64 x1 4294967295) * (Go.bits .and .u64 y2 4294967295))) 32))) 4294967295) + (u64 ((Go.bits .and .u64 x1 4294967295) * (shr y2 32))))) 32))), .int .u64 0, .int .u64 (Go.bits .and .u64 x1 4294967295), .int .u64 (shr x1 32), .int .u64 (Go.bits .and .u64 y2 4294967295), .int .u64 (shr y2 32), .int .u64 (u64 ((Go.bits .and .u64 x1 4294967295) * (Go.bits .and .u64 y2 4294967295))), .int .u64 (u64 ((u64 ((shr x1 32) * (Go.bits .and .u64 y2 4294967295))) + (shr (u64 ((Go.bits .and .u64 x1 4294967295) * (Go.bits .and .u64 y2 4294967295))) 32))), .int .u64 (u64 ((Go.bits .and .u64 (u64 ((u64 ((shr x1 32) * (Go.bits .and .u64 y2 4294967295))) + (shr (u64 ((Go.bits .and .u64 x1 4294967295) * (Go.bits .and .u64 y2 4294967295))) 32))) 4294967295) + (u64 ((Go.bits .and .u64 x1 4294967295) * (shr y2 32))))), .int .u64 (shr (u64 ((u64 ((shr x1 32) * (Go.bits .and .u64 y2 4294967295))) + (shr (u64 ((Go.bits .and .u64 x1 4294967295) * (Go.bits .and .u64 y2 4294967295))) 32))) 32), .int .u64 x1, .int .u64 (Go.bits .and .u64 x1 4294967295), .int .u64 x1, .int .u64 (shr x1 32), .int .u64 y2, .int .u64 (Go.bits .and .u64 y2 4294967295), .int .u64 y2, .int .u64 (shr y2 32), .int .u64 (Go.bits .and .u64 x1 4294967295), .int .u64 (Go.bits .and .u64 y2 4294967295), .int .u64 (u64 ((Go.bits .and .u64 x1 4294967295) * (Go.bits .and .u64 y2 4294967295))), .int .u64 (shr x1 32), .int .u64 (Go.bits .and .u64 y2 4294967295), .int .u64 (u64 ((shr x1 32) * (Go.bits .and .u64 y2 4294967295))), .int .u64 (u64 ((Go.bits .and .u64 x1 4294967295) * (Go.bits .and .u64 y2 4294967295))), .int .u64 (shr (u64 ((Go.bits .and .u64 x1 4294967295) * (Go.bits .and .u64 y2 4294967295))) 32), .int .u64 (u64 ((u64 ((shr x1 32) * (Go.bits .and .u64 y2 4294967295))) + (shr (u64 ((Go.bits .and .u64 x1 4294967295) * (Go.bits .and .u64 y2 4294967295))) 32))), .int .u64 (u64 ((u64 ((shr x1 32) * (Go.bits .and .u64 y2 4294967295))) + (shr (u64 ((Go.bits .and .u64 x1 4294967295) * (Go.bits .and .u64 y2 4294967295))) 32))), .int .u64 (Go.bits .and .u64 (u64 ((u64 ((shr x1 32) * (Go.bits .and .u64 y2 4294967295))) + (shr (u64 ((Go.bits .and .u64 x1 4294967295) * (Go.bits .and .u64 y2 4294967295))) 32))) 4294967295), .int .u64 (u64 ((u64 ((shr x1 32) * (Go.bits .and .u64 y2 4294967295))) + (shr (u64 ((Go.bits .and .u64 x1 4294967295) * (Go.bits .and .u64 y2 4294967295))) 32))), .int .u64 (shr (u64 ((u64 ((shr x1 32) * (Go.bits .and .u64 y2 4294967295))) + (shr (u64 ((Go.bits .and .u64 x1 4294967295) * (Go.bits .and .u64 y2 4294967295))) 32))) 32), .int .u64 (Go.bits .and .u64 (u64 ((u64 ((shr x1 32) * (Go.bits .and .u64 y2 4294967295))) + (shr (u64 ((Go.bits .and .u64 x1 4294967295) * (Go.bits .and .u64 y2 4294967295))) 32))) 4294967295), .int .u64 (Go.bits .and .u64 x1 4294967295), .int .u64 (shr y2 32), .int .u64 (u64 ((Go.bits .and .u64 x1 4294967295) * (shr y2 32))), .int .u64 (u64 ((Go.bits .and .u64 (u64 ((u64 ((shr x1 32) * (Go.bits .and .u64 y2 4294967295))) + (shr (u64 ((Go.bits .and .u64 x1 4294967295) * (Go.bits .and .u64 y2 4294967295))) 32))) 4294967295) + (u64 ((Go.bits .and .u64 x1 4294967295) * (shr y2 32))))), .int .u64 (shr x1 32), .int .u64 (shr y2 32), .int .u64 (u64 ((shr x1 32) * (shr y2 32))), .int .u64 (shr (u64 ((u64 ((shr x1 32) * (Go.bits .and .u64 y2 4294967295))) + (shr (u64 ((Go.bits .and .u64 x1 4294967295) * (Go.bits .and .u64 y2 4294967295))) 32))) 32), .int .u64 (u64 ((u64 ((shr x1 32) * (shr y2 32))) + (shr (u64 ((u64 ((shr x1 32) * (Go.bits .and .u64 y2 4294967295))) + (shr (u64 ((Go.bits .and .u64 x1 4294967295) * (Go.bits .and .u64 y2 4294967295))) 32))) 32))), .int .u64 (u64 ((Go.bits .and .u64 (u64 ((u64 ((shr x1 32) * (Go.bits .and .u64 y2 4294967295))) + (shr (u64 ((Go.bits .and .u64 x1 4294967295) * (Go.bits .and .u64 y2 4294967295))) 32))) 4294967295) + (u64 ((Go.bits .and .u64 x1 4294967295) * (shr y2 32))))), .int .u64 (shr (u64 ((Go.bits .and .u64 (u64 ((u64 ((shr x1 32) * (Go.bits .and .u64 y2 4294967295))) + (shr (u64 ((Go.bits .and .u64 x1 4294967295) * (Go.bits .and .u64 y2 4294967295))) 32))) 4294967295) + (u64 ((Go.bits .and .u64 x1 4294967295) * (shr y2 32))))) 32), .int .u64 (u64 ((u64 ((u64 ((shr x1 32) * (shr y2 32))) + (shr (u64 ((u64 ((shr x1 32) * (Go.bits .and .u64 y2 4294967295))) + (shr (u64 ((Go.bits .and .u64 x1 4294967295) * (Go.bits .and .u64 y2 4294967295))) 32))) 32))) + (shr (u64 ((Go.bits .and .u64 (u64 ((u64 ((shr x1 32) * (Go.bits .and .u64 y2 4294967295))) + (shr (u64 ((Go.bits .and .u64 x1 4294967295) * (Go.bits .and .u64 y2 4294967295))) 32))) 4294967295) + (u64 ((Go.bits .and .u64 x1 4294967295) * (shr y2 32))))) 32))), undef, undef, undef], []⟩) (by kernel_rfl) ?_
  refine wpList_nil ?_
  refine hK24 _ _ ?_
  refine wp_seq_k (fun K25 hK26 => ?_)
  refine wp_region_lit ?_
  refine seqS4 (a' := ⟨#[.int .u64 x1, .int .u64 y2, undef, undef, .int .u64 (u64 ((u64 ((u64 ((shr x1 32) * (shr y2 32))) + (shr (u64 ((u64 ((shr x1 32) * (Go.bits .and .u64 y2 4294967295))) + (shr (u64 ((Go.bits .and .u64 x1 4294967295) * (Go.bits .and .u64 y2 4294967295))) 32))) 32))) + (shr (u64 ((Go.bits .and .u64 (u64 ((u64 ((shr x1 32) * (Go.bits .and .u64 y2 4294967295))) + (shr (u64 ((Go.bits .and .u64 x1 4294967295) * (Go.bits .and .u64 y2 4294967295))) 32))) 4294967295) + (u64 ((Go.bits .and .u64 x1 4294967295) * (shr y2 32))))) 32))), .int .u64 (u64 (x1 * y2)), .int .u64 (Go.bits .and .u64 x1 4294967295), .int .u64 (shr x1 32), .int .u64 (Go.bits .and .u64 y2 4294967295), .int .u64 (shr y2 32), .int .u64 (u64 ((Go.bits .and .u64 x1 4294967295) * (Go.bits .and .u64 y2 4294967295))), .int .u64 (u64 ((u64 ((shr x1 32) * (Go.bits .and .u64 y2 4294967295))) + (shr (u64 ((Go.bits .and .u64 x1 4294967295) * (Go.bits .and .u64 y2 4294967295))) 32))), .int .u64 (u64 ((Go.bits .and .u64 (u64 ((u64 ((shr x1 32) * (Go.bits .and .u64 y2 4294967295))) + (shr (u64 ((Go.bits .and .u64 x1 4294967295) * (Go.bits .and .u64 y2 4294967295))) 32))) 4294967295) + (u64 ((Go.bits .and .u64 x1 4294967295) * (shr y2 32))))), .int .u64 (shr (u64 ((u64 ((shr x1 32) * (Go.bits .and .u64 y2 4294967295))) + (shr (u64 ((Go.bits .and .u64 x1 4294967295) * (Go.bits .and .u64 y2 4294967295))) 32))) 32), .int .u64 x1, .int .u64 (Go.bits .and .u64 x1 4294967295), .int .u64 x1, .int .u64 (shr x1 32), .int .u64 y2, .int .u64 (Go.bits .and .u64 y2 4294967295), .int .u64 y2, .int .u64 (shr y2 32), .int .u64 (Go.bits .and .u64 x1 4294967295), .int .u64 (Go.bits .and .u64 y2 4294967295), .int .u64 (u64 ((Go.bits .and .u64 x1 4294967295) * (Go.bits .and .u64 y2 4294967295))), .int .u64 (shr x1 32), .int .u64 (Go.bits .and .u64 y2 4294967295), .int .u64 (u64 ((shr x1 32) * (Go.bits .and .u64 y2 4294967295))), .int .u64 (u64 ((Go.bits .and .u64 x1 4294967295) * (Go.bits .and .u64 y2 4294967295))), .int .u64 (shr (u64 ((Go.bits .and .u64 x1 4294967295) * (Go.bits .and .u64 y2 4294967295))) 32), .int .u64 (u64 ((u64 ((shr x1 32) * (Go.bits .and .u64 y2 4294967295))) + (shr (u64 ((Go.bits .and .u64 x1 4294967295) * (Go.bits .and .u64 y2 4294967295))) 32))), .int .u64 (u64 ((u64 ((shr x1 32) * (Go.bits .and .u64 y2 4294967295))) + (shr (u64 ((Go.bits .and .u64 x1 4294967295) * (Go.bits .and .u64 y2 4294967295))) 32))), .int .u64 (Go.bits .and .u64 (u64 ((u64 ((shr x1 32) * (Go.bits .and .u64 y2 4294967295))) + (shr (u64 ((Go.bits .and .u64 x1 4294967295) * (Go.bits .and .u64 y2 4294967295))) 32))) 4294967295), .int .u64 (u64 ((u64 ((shr x1 32) * (Go.bits .and .u64 y2 4294967295))) + (shr (u64 ((Go.bits .and .u64 x1 4294967295) * (Go.bits .and .u64 y2 4294967295))) 32))), .int .u64 (shr (u64 ((u64 ((shr x1 32) * (Go.bits .and .u64 y2 4294967295))) + (shr (u64 ((Go.bits .and .u64 x1 4294967295) * (Go.bits .and .u64 y2 4294967295))) 32))) 32), .int .u64 (Go.bits .and .u64 (u64 ((u64 ((shr x1 32) * (Go.bits .and .u64 y2 4294967295))) + (shr (u64 ((Go.bits .and .u64 x1 4294967295) * (Go.bits .and .u64 y2 4294967295))) 32))) 4294967295), .int .u64 (Go.bits .and .u64 x1 4294967295), .int .u64 (shr y2 32), .int .u64 (u64 ((Go.bits .and .u64 x1 4294967295) * (shr y2 32))), .int .u64 (u64 ((Go.bits .and .u64 (u64 ((u64 ((shr x1 32) * (Go.bits .and .u64 y2 4294967295))) + (shr (u64 ((Go.bits .and .u64 x1 4294967295) * (Go.bits .and .u64 y2 4294967295))) 32))) 4294967295) + (u64 ((Go.bits .and .u64 x1 4294967295) * (shr y2 32))))), .int .u64 (shr x1 32), .int .u64 (shr y2 32), .int .u64 (u64 ((shr x1 32) * (shr y2 32))), .int .u64 (shr (u64 ((u64 ((shr x1 32) * (Go.bits .and .u64 y2 4294967295))) + (shr (u64 ((Go.bits .and .u64 x1 4294967295) * (Go.bits .and .u64 y2 4294967295))) 32))) 32), .int .u64 (u64 ((u64 ((shr x1 32) * (shr y2 32))) + (shr (u64 ((u64 ((shr x1 32) * (Go.bits .and .u64 y2 4294967295))) + (shr (u64 ((Go.bits .and .u64 x1 4294967295) * (Go.bits .and .u64 y2 4294967295))) 32))) 32))), .int .u64 (u64 ((Go.bits .and .u64 (u64 ((u64 ((shr x1 32) * (Go.bits .and .u64 y2 4294967295))) + (shr (u64 ((Go.bits .and .u64 x1 4294967295) * (Go.bits .and .u64 y2 4294967295))) 32))) 4294967295) + (u64 ((Go.bits .and .u64 x1 4294967295) * (shr y2 32))))), .int .u64 (shr (u64 ((Go.bits .and .u64 (u64 ((u64 ((shr x1 32) * (Go.bits .and .u64 y2 4294967295))) + (shr (u64 ((Go.bits .and .u64 x1 4294967295) * (Go.bits .and .u64 y2 4294967295))) 32))) 4294967295) + (u64 ((Go.bits .and .u64 x1 4294967295) * (shr y2 32))))) 32), .int .u64 (u64 ((u64 ((u64 ((shr x1 32) * (shr y2 32))) + (shr (u64 ((u64 ((shr x1 32) * (Go.bits .and .u64 y2 4294967295))) + (shr (u64 ((Go.bits .and .u64 x1 4294967295) * (Go.bits .and .u64 y2 4294967295))) 32))) 32))) + (shr (u64 ((Go.bits .and .u64 (u64 ((u64 ((shr x1 32) * (Go.bits .and .u64 y2 4294967295))) + (shr (u64 ((Go.bits .and .u64 x1 4294967295) * (Go.bits .and .u64 y2 4294967295))) 32))) 4294967295) + (u64 ((Go.bits .and .u64 x1 4294967295) * (shr y2 32))))) 32))), .int .u64 x1, .int .u64 y2, .int .u64 (u64 (x1 * y2))], []⟩) (by kernel_rfl) ?_
  refine wpList_nil ?_
  refine hK26 _ _ ?_
  refine wp_ret ?_
  refine hret _ _ ?_
  refine ends_still (v := Value.tuple #[.int .u64 (u64 ((u64 ((u64 ((shr x1 32) * (shr y2 32))) + (shr (u64 ((u64 ((shr x1 32) * (Go.bits .and .u64 y2 4294967295))) + (shr (u64 ((Go.bits .and .u64 x1 4294967295) * (Go.bits .and .u64 y2 4294967295))) 32))) 32))) + (shr (u64 ((Go.bits .and .u64 (u64 ((u64 ((shr x1 32) * (Go.bits .and .u64 y2 4294967295))) + (shr (u64 ((Go.bits .and .u64 x1 4294967295) * (Go.bits .and .u64 y2 4294967295))) 32))) 4294967295) + (u64 ((Go.bits .and .u64 x1 4294967295) * (shr y2 32))))) 32))), .int .u64 (u64 (x1 * y2))]) (by kernel_rfl) (by kernel_rfl) ?_
  injection h with h
  injection h with h0_ h
  subst h0_ h
  exact ⟨f, rfl, FM.le.refl _, HS⟩

set_option maxRecDepth 100000 in
set_option maxHeartbeats 4000000 in
theorem num_SqrtMul.calls (k : Nat)  (a1 : Int) (b2 : Int) {t w : World} {f : FM} {H : List Seg} (HS : St t w f (H)) (r1 : Int) (h : num_SqrtMul k a1 b2 = some r1) :
    Calls Try.prog 44 #[.int .i64 a1, .int .i64 b2] w (fun e w' => ∃ (g : FM), e = .returned (Value.int .i64 r1) ∧ FM.le f g ∧ St t w' g (H)) := by
  unfold num_SqrtMul at h
  refine enter Try.func44 rfl (tm := #[.int .i64 a1, .int .i64 b2, undef, undef, undef, undef, undef, undef, undef, undef, undef, undef, undef, undef, undef, undef, undef, undef, undef, undef, undef, undef, undef, undef, undef, undef, undef, undef, undef, undef, undef, undef, undef, undef, undef, undef, undef, undef, undef, undef, undef, undef, undef, undef, undef, undef, undef, undef, undef, undef, undef, undef, undef, undef, undef, undef, undef]) (by kernel_rfl) ?_
  intro B hret hnor hnp
  refine wp_seq_k (fun K3 hK4 => ?_)
  refine wp_region_lit ?_
  refine seqS1 (a' := ⟨#[.int .i64 a1, .int .i64 b2, undef, undef, .int .i64 0, undef, undef, undef, undef, undef, undef, undef, undef, undef, undef, undef, undef, undef, undef, undef, undef, undef, undef, undef, undef, undef, undef, undef, undef, undef, undef, undef, undef, undef, undef, undef, undef, undef, undef, undef, undef, undef, undef, undef, undef, undef, undef, undef, undef, undef, undef, undef, undef, undef, undef, undef, undef], []⟩) (by kernel_rfl) ?_
  refine wpList_nil ?_
  refine hK4 _ _ ?_
  refine wp_seq_k (fun K5 hK6 => ?_)
  refine wp_seq_k (fun K7 hK8 => ?_)
  refine wp_region_lit ?_
  refine seqS3 (a' := ⟨#[.int .i64 a1, .int .i64 b2, undef, undef, .int .i64 0, undef, undef, undef, undef, undef, undef, .int .i64 a1, .bool (decide (a1 < 0)), .bool (decide (a1 < 0)), undef, undef, undef, undef, undef, undef, undef, undef, undef, undef, undef, undef, undef, undef, undef, undef, undef, undef, undef, undef, undef, undef, undef, undef, undef, undef, undef, undef, undef, undef, undef, undef, undef, undef, undef, undef, undef, undef, undef, undef, undef, undef, undef], []⟩) (by kernel_rfl) ?_
  have hq_ := ite_some h; clear h; rcases hq_ with ⟨c9, h⟩ | ⟨c9, h⟩
  · have c9 : a1 < 0 := c9
    refine seqRwI 12 (x := (decide (a1 < 0))) (v := true) (by kernel_rfl) (decide_eq_true c9) ?_
    refine seqRwI 13 (x := (decide (a1 < 0))) (v := true) (by kernel_rfl) (decide_eq_true c9) ?_
    refine seqS3 (a' := ⟨#[.int .i64 a1, .int .i64 b2, undef, undef, .int .i64 0, undef, undef, undef, undef, undef, undef, .int .i64 a1, .bool true, .bool true, undef, undef, .bool true, undef, undef, undef, undef, undef, undef, undef, undef, undef, undef, undef, undef, undef, undef, undef, undef, undef, undef, undef, undef, undef, undef, undef, undef, undef, undef, undef, undef, undef, undef, undef, undef, undef, undef, undef, undef, undef, undef, undef, undef], []⟩) (by kernel_rfl) ?_
    refine wpList_nil ?_
    refine hK8 _ _ ?_
    refine condT (by kernel_rfl) ?_
    refine wp_seq_k (fun K10 hK11 => ?_)
    refine wp_region_lit ?_
    refine seqS1 (a' := ⟨#[.int .i64 a1, .int .i64 b2, undef, undef, .int .i64 0, undef, undef, undef, undef, undef, undef, .int .i64 a1, .bool true, .bool true, undef, undef, .bool true, undef, undef, undef, undef, undef, undef, undef, undef, undef, undef, undef, undef, undef, undef, undef, undef, undef, undef, undef, undef, undef, undef, undef, undef, undef, undef, undef, undef, undef, undef, undef, undef, undef, undef, undef, undef, undef, undef, undef, undef], []⟩) (by kernel_rfl) ?_
    refine wpList_nil ?_
    refine hK11 _ _ ?_
    refine wp_ret ?_
    refine hret _ _ ?_
    refine ends_still (v := Value.int .i64 0) (by kernel_rfl) (by kernel_rfl) ?_
    injection h with h
    subst h
    exact ⟨f, rfl, FM.le.refl _, HS⟩
  · have c9 : ¬ (a1 < 0) := c9
    refine seqRwI 12 (x := (decide (a1 < 0))) (v := false) (by kernel_rfl) (decide_eq_false c9) ?_
    refine seqRwI 13 (x := (decide (a1 < 0))) (v := false) (by kernel_rfl) (decide_eq_false c9) ?_
    refine seqS3 (a' := ⟨#[.int .i64 a1, .int .i64 b2, undef, undef, .int .i64 0, undef, undef, undef, undef, undef, undef, .int .i64 a1, .bool false, .bool false, .int .i64 b2, .bool (decide (b2 < 0)), .bool (decide (b2 < 0)), undef, undef, undef, undef, undef, undef, undef, undef, undef, undef, undef, undef, undef, undef, undef, undef, undef, undef, undef, undef, undef, undef, undef, undef, undef, undef, undef, undef, undef, undef, undef, undef, undef, undef, undef, undef, undef, undef, undef, undef], []⟩) (by kernel_rfl) ?_
    refine wpList_nil ?_
    refine hK8 _ _ ?_
    have hq_ := ite_some h; clear h; rcases hq_ with ⟨c13, h⟩ | ⟨c13, h⟩
    · have c13 : b2 < 0 := c13
      refine wpRwI 15 (x := (decide (b2 < 0))) (v := true) (by kernel_rfl) (decide_eq_true c13) ?_
      refine wpRwI 16 (x := (decide (b2 < 0))) (v := true) (by kernel_rfl) (decide_eq_true c13) ?_
      refine condT (by kernel_rfl) ?_
      refine wp_seq_k (fun K14 hK15 => ?_)
      refine wp_region_lit ?_
      refine seqS1 (a' := ⟨#[.int .i64 a1, .int .i64 b2, undef, undef, .int .i64 0, undef, undef, undef, undef, undef, undef, .int .i64 a1, .bool false, .bool false, .int .i64 b2, .bool true, .bool true, undef, undef, undef, undef, undef, undef, undef, undef, undef, undef, undef, undef, undef, undef, undef, undef, undef, undef, undef, undef, undef, undef, undef, undef, undef, undef, undef, undef, undef, undef, undef, undef, undef, undef, undef, undef, undef, undef, undef, undef], []⟩) (by kernel_rfl) ?_
      refine wpList_nil ?_
      refine hK15 _ _ ?_
      refine wp_ret ?_
      refine hret _ _ ?_
      refine ends_still (v := Value.int .i64 0) (by kernel_rfl) (by kernel_rfl) ?_
      injection h with h
      subst h
      exact ⟨f, rfl, FM.le.refl _, HS⟩
    · have c13 : ¬ (b2 < 0) := c13
      refine wpRwI 15 (x := (decide (b2 < 0))) (v := false) (by kernel_rfl) (decide_eq_false c13) ?_
      refine wpRwI 16 (x := (decide (b2 < 0))) (v := false) (by kernel_rfl) (decide_eq_false c13) ?_
      refine condF (by kernel_rfl) ?_
      refine wp_skip ?_
      refine hK6 _ _ ?_
      refine wp_seq_k (fun K16 hK17 => ?_)
      refine wp_region_lit ?_
      have hq_ := bind_some h; clear h; obtain ⟨⟨vt18, vt19⟩, hc20, h⟩ := hq_
      refine seqL4 (by kernel_rfl) ?_
      refine seqK rfl (does_call (f := 54) (args := #[.int .u64 (u64 (a1)), .int .u64 (u64 (b2))]) (by kernel_rfl) (bits_Mul64.calls k (u64 (a1)) (u64 (b2)) HS vt18 vt19 hc20) ?_)
      rintro _ W23 ⟨f21, rfl, L22, HS24⟩
      refine ⟨_, rfl, ?_⟩
      refine seqS5 (a' := ⟨#[.int .i64 a1, .int .i64 b2, undef, undef, .int .i64 0, .int .u64 vt18, .int .u64 vt19, undef, undef, undef, undef, .int .i64 a1, .bool false, .bool false, .int .i64 b2, .bool false, .bool false, .tuple #[.int .u64 vt18, .int .u64 vt19], .int .i64 a1, .int .u64 (u64 (a1)), .int .i64 b2, .int .u64 (u64 (b2)), .tuple #[.int .u64 vt18, .int .u64 vt19], .int .u64 vt18, .int .u64 vt19, undef, undef, undef, undef, undef, undef, undef, undef, undef, undef, undef, undef, undef, undef, undef, undef, undef, undef, undef, undef, undef, undef, undef, undef, undef, undef, undef, undef, undef, undef, undef, undef], []⟩) (by kernel_rfl) ?_
      refine wpList_nil ?_
      refine hK17 _ _ ?_
      refine wp_seq_k (fun K25 hK26 => ?_)
      refine wp_region_lit ?_
      refine seqS1 (a' := ⟨#[.int .i64 a1, .int .i64 b2, undef, undef, .int .i64 0, .int .u64 vt18, .int .u64 vt19, .int .u64 0, undef, undef, undef, .int .i64 a1, .bool false, .bool false, .int .i64 b2, .bool false, .bool false, .tuple #[.int .u64 vt18, .int .u64 vt19], .int .i64 a1, .int .u64 (u64 (a1)), .int .i64 b2, .int .u64 (u64 (b2)), .tuple #[.int .u64 vt18, .int .u64 vt19], .int .u64 vt18, .int .u64 vt19, undef, undef, undef, undef, undef, undef, undef, undef, undef, undef, undef, undef, undef, undef, undef, undef, undef, undef, undef, undef, undef, undef, undef, undef, undef, undef, undef, undef, undef, undef, undef, undef], []⟩) (by kernel_rfl) ?_
      refine wpList_nil ?_
      refine hK26 _ _ ?_
      refine wp_seq_k (fun K27 hK28 => ?_)
      refine wp_seq_k (fun K29 hK30 => ?_)
      refine wp_region_lit ?_
      refine seqS1 (a' := ⟨#[.int .i64 a1, .int .i64 b2, undef, undef, .int .i64 0, .int .u64 vt18, .int .u64 vt19, .int .u64 0, .int .u64 4611686018427387904, undef, undef, .int .i64 a1, .bool false, .bool false, .int .i64 b2, .bool false, .bool false, .tuple #[.int .u64 vt18, .int .u64 vt19], .int .i64 a1, .int .u64 (u64 (a1)), .int .i64 b2, .int .u64 (u64 (b2)), .tuple #[.int .u64 vt18, .int .u64 vt19], .int .u64 vt18, .int .u64 vt19, undef, undef, undef, undef, undef, undef, undef, undef, undef, undef, undef, undef, undef, undef, undef, undef, undef, undef, undef, undef, undef, undef, undef, undef, undef, undef, undef, undef, undef, undef, undef, undef], []⟩) (by kernel_rfl) ?_
      refine wpList_nil ?_
      refine hK30 _ _ ?_
      refine blockK (fun B31 hx32 hn33 hr34 ho35 hp36 => ?_)
      have hq_ := bind_some h; clear h; obtain ⟨o37, hv84, h⟩ := hq_
      have J85 : ∀ (f78 : FM) (r83 : Int) (j82 : Nat → Value) (W80 : World) (a_ : Act), FM.le f21 f78 → some (r83) = some o37 → St t W80 f78 (H) → a_ = ⟨#[.int .i64 a1, .int .i64 b2, undef, undef, .int .i64 0, .int .u64 vt18, .int .u64 vt19, .int .u64 r83, (j82 0), (j82 1), (j82 2), .int .i64 a1, .bool false, .bool false, .int .i64 b2, .bool false, .bool false, .tuple #[.int .u64 vt18, .int .u64 vt19], .int .i64 a1, .int .u64 (u64 (a1)), .int .i64 b2, .int .u64 (u64 (b2)), .tuple #[.int .u64 vt18, .int .u64 vt19], .int .u64 vt18, .int .u64 vt19, (j82 3), (j82 4), (j82 5), (j82 6), (j82 7), (j82 8), (j82 9), (j82 10), (j82 11), (j82 12), (j82 13), (j82 14), (j82 15), (j82 16), (j82 17), (j82 18), (j82 19), (j82 20), (j82 21), (j82 22), (j82 23), (j82 24), (j82 25), (j82 26), (j82 27), (j82 28), (j82 29), (j82 30), (j82 31), (j82 32), undef, undef], []⟩ → K27 a_ W80 := by
        intro f78 r83 j82 W80 a_ L79 hj86 HS81  hfr_; subst hfr_
        injection hj86 with hj86; subst hj86; try dsimp only at h
        refine hK28 _ _ ?_
        refine wp_seq_k (fun K87 hK88 => ?_)
        refine wp_region_lit ?_
        refine seqS3 (a' := ⟨#[.int .i64 a1, .int .i64 b2, undef, undef, .int .i64 (w64 (r83)), .int .u64 vt18, .int .u64 vt19, .int .u64 r83, (j82 0), (j82 1), (j82 2), .int .i64 a1, .bool false, .bool false, .int .i64 b2, .bool false, .bool false, .tuple #[.int .u64 vt18, .int .u64 vt19], .int .i64 a1, .int .u64 (u64 (a1)), .int .i64 b2, .int .u64 (u64 (b2)), .tuple #[.int .u64 vt18, .int .u64 vt19], .int .u64 vt18, .int .u64 vt19, (j82 3), (j82 4), (j82 5), (j82 6), (j82 7), (j82 8), (j82 9), (j82 10), (j82 11), (j82 12), (j82 13), (j82 14), (j82 15), (j82 16), (j82 17), (j82 18), (j82 19), (j82 20), (j82 21), (j82 22), (j82 23), (j82 24), (j82 25), (j82 26), (j82 27), (j82 28), (j82 29), (j82 30), (j82 31), (j82 32), .int .u64 r83, .int .i64 (w64 (r83))], []⟩) (by kernel_rfl) ?_
        refine wpList_nil ?_
        refine hK88 _ _ ?_
        refine wp_ret ?_
        refine hret _ _ ?_
        refine ends_still (v := Value.int .i64 (w64 (r83))) (by kernel_rfl) (by kernel_rfl) ?_
        injection h with h
        subst h
        exact ⟨f78, rfl, (L22.trans L79), HS81⟩
      clear h; have h := hv84; clear hv84
      refine loopK (fun n_ a_ w_ => ∃ (f41 : FM) (r46 : Int) (bit47 : Int) (j45 : Nat → Value), FM.le f21 f41 ∧ St t w_ f41 (H) ∧ num_SqrtMul.l0 k vt18 vt19 n_ r46 bit47 = some o37 ∧ a_ = ⟨#[.int .i64 a1, .int .i64 b2, undef, undef, .int .i64 0, .int .u64 vt18, .int .u64 vt19, .int .u64 r46, .int .u64 bit47, (j45 0), (j45 1), .int .i64 a1, .bool false, .bool false, .int .i64 b2, .bool false, .bool false, .tuple #[.int .u64 vt18, .int .u64 vt19], .int .i64 a1, .int .u64 (u64 (a1)), .int .i64 b2, .int .u64 (u64 (b2)), .tuple #[.int .u64 vt18, .int .u64 vt19], .int .u64 vt18, .int .u64 vt19, (j45 2), (j45 3), (j45 4), (j45 5), (j45 6), (j45 7), (j45 8), (j45 9), (j45 10), (j45 11), (j45 12), (j45 13), (j45 14), (j45 15), (j45 16), (j45 17), (j45 18), (j45 19), (j45 20), (j45 21), (j45 22), (j45 23), (j45 24), (j45 25), (j45 26), (j45 27), (j45 28), (j45 29), (j45 30), (j45 31), undef, undef], []⟩) k ⟨f21, 0, 4611686018427387904, (fun i_ => [undef, undef, undef, undef, undef, undef, undef, undef, undef, undef, undef, undef, undef, undef, undef, undef, undef, undef, undef, undef, undef, undef, undef, undef, undef, undef, undef, undef, undef, undef, undef, undef].getD i_ undef), (FM.le.refl _), HS24, h, (by kernel_rfl)⟩ ?_
      clear h
      rintro n40 _ W43 ⟨f41, r46, bit47, j45, L42, HS44, h, rfl⟩ K38 hK39
      obtain _ | n40 := n40
      · exact nomatch h
      simp only [num_SqrtMul.l0] at h
      refine wp_seq_k (fun K48 hK49 => ?_)
      refine wp_seq_k (fun K50 hK51 => ?_)
      refine wp_region_lit ?_
      refine seqS2 (a' := ⟨#[.int .i64 a1, .int .i64 b2, undef, undef, .int .i64 0, .int .u64 vt18, .int .u64 vt19, .int .u64 r46, .int .u64 bit47, (j45 0), (j45 1), .int .i64 a1, .bool false, .bool false, .int .i64 b2, .bool false, .bool false, .tuple #[.int .u64 vt18, .int .u64 vt19], .int .i64 a1, .int .u64 (u64 (a1)), .int .i64 b2, .int .u64 (u64 (b2)), .tuple #[.int .u64 vt18, .int .u64 vt19], .int .u64 vt18, .int .u64 vt19, .int .u64 bit47, .bool (decide (bit47 > 0)), (j45 4), (j45 5), (j45 6), (j45 7), (j45 8), (j45 9), (j45 10), (j45 11), (j45 12), (j45 13), (j45 14), (j45 15), (j45 16), (j45 17), (j45 18), (j45 19), (j45 20), (j45 21), (j45 22), (j45 23), (j45 24), (j45 25), (j45 26), (j45 27), (j45 28), (j45 29), (j45 30), (j45 31), undef, undef], []⟩) (by kernel_rfl) ?_
      refine wpList_nil ?_
      refine hK51 _ _ ?_
      have hq_ := ite_some h; clear h; rcases hq_ with ⟨c53, h⟩ | ⟨c53, h⟩
      · have c53 : bit47 > 0 := c53
        refine wpRwI 26 (x := (decide (bit47 > 0))) (v := true) (by kernel_rfl) (decide_eq_true c53) ?_
        refine condT (by kernel_rfl) ?_
        refine wp_skip ?_
        refine hK49 _ _ ?_
        refine wp_seq_k (fun K54 hK55 => ?_)
        refine blockK (fun B56 hx57 hn58 hr59 ho60 hp61 => ?_)
        refine wp_seq_k (fun K63 hK64 => ?_)
        refine wp_region_lit ?_
        have hq_ := bind_some h; clear h; obtain ⟨⟨vt65, vt66⟩, hc67, h⟩ := hq_
        refine seqL6 (by kernel_rfl) ?_
        refine seqK rfl (does_call (f := 54) (args := #[.int .u64 (Go.bits .or .u64 r46 bit47), .int .u64 (Go.bits .or .u64 r46 bit47)]) (by kernel_rfl) (bits_Mul64.calls k (Go.bits .or .u64 r46 bit47) (Go.bits .or .u64 r46 bit47) HS44 vt65 vt66 hc67) ?_)
        rintro _ W70 ⟨f68, rfl, L69, HS71⟩
        refine ⟨_, rfl, ?_⟩
        refine seqS5 (a' := ⟨#[.int .i64 a1, .int .i64 b2, undef, undef, .int .i64 0, .int .u64 vt18, .int .u64 vt19, .int .u64 r46, .int .u64 bit47, .int .u64 vt65, .int .u64 vt66, .int .i64 a1, .bool false, .bool false, .int .i64 b2, .bool false, .bool false, .tuple #[.int .u64 vt18, .int .u64 vt19], .int .i64 a1, .int .u64 (u64 (a1)), .int .i64 b2, .int .u64 (u64 (b2)), .tuple #[.int .u64 vt18, .int .u64 vt19], .int .u64 vt18, .int .u64 vt19, .int .u64 bit47, .bool true, (j45 4), (j45 5), .tuple #[.int .u64 vt65, .int .u64 vt66], .int .u64 r46, .int .u64 bit47, .int .u64 (Go.bits .or .u64 r46 bit47), .int .u64 r46, .int .u64 bit47, .int .u64 (Go.bits .or .u64 r46 bit47), .tuple #[.int .u64 vt65, .int .u64 vt66], .int .u64 vt65, .int .u64 vt66, (j45 16), (j45 17), (j45 18), (j45 19), (j45 20), (j45 21), (j45 22), (j45 23), (j45 24), (j45 25), (j45 26), (j45 27), (j45 28), (j45 29), (j45 30), (j45 31), undef, undef], []⟩) (by kernel_rfl) ?_
        refine wpList_nil ?_
        refine hK64 _ _ ?_
        refine wp_seq_k (fun K72 hK73 => ?_)
        refine wp_region_lit ?_
        refine seqS4 (a' := ⟨#[.int .i64 a1, .int .i64 b2, undef, undef, .int .i64 0, .int .u64 vt18, .int .u64 vt19, .int .u64 r46, .int .u64 bit47, .int .u64 vt65, .int .u64 vt66, .int .i64 a1, .bool false, .bool false, .int .i64 b2, .bool false, .bool false, .tuple #[.int .u64 vt18, .int .u64 vt19], .int .i64 a1, .int .u64 (u64 (a1)), .int .i64 b2, .int .u64 (u64 (b2)), .tuple #[.int .u64 vt18, .int .u64 vt19], .int .u64 vt18, .int .u64 vt19, .int .u64 bit47, .bool true, (j45 4), (j45 5), .tuple #[.int .u64 vt65, .int .u64 vt66], .int .u64 r46, .int .u64 bit47, .int .u64 (Go.bits .or .u64 r46 bit47), .int .u64 r46, .int .u64 bit47, .int .u64 (Go.bits .or .u64 r46 bit47), .tuple #[.int .u64 vt65, .int .u64 vt66], .int .u64 vt65, .int .u64 vt66, .int .u64 vt65, .int .u64 vt18, .bool (decide (vt65 < vt18)), .bool (decide (vt65 < vt18)), (j45 20), (j45 21), (j45 22), (j45 23), (j45 24), (j45 25), (j45 26), (j45 27), (j45 28), (j45 29), (j45 30), (j45 31), undef, undef], []⟩) (by kernel_rfl) ?_
        have hq_ := ite_some h; clear h; rcases hq_ with ⟨c74, h⟩ | ⟨c74, h⟩
        · have c74 : vt65 < vt18 := c74
          refine seqRwI 41 (x := (decide (vt65 < vt18))) (v := true) (by kernel_rfl) (decide_eq_true c74) ?_
          refine seqRwI 42 (x := (decide (vt65 < vt18))) (v := true) (by kernel_rfl) (decide_eq_true c74) ?_
          refine seqS9 (a' := ⟨#[.int .i64 a1, .int .i64 b2, undef, undef, .int .i64 0, .int .u64 vt18, .int .u64 vt19, .int .u64 r46, .int .u64 bit47, .int .u64 vt65, .int .u64 vt66, .int .i64 a1, .bool false, .bool false, .int .i64 b2, .bool false, .bool false, .tuple #[.int .u64 vt18, .int .u64 vt19], .int .i64 a1, .int .u64 (u64 (a1)), .int .i64 b2, .int .u64 (u64 (b2)), .tuple #[.int .u64 vt18, .int .u64 vt19], .int .u64 vt18, .int .u64 vt19, .int .u64 bit47, .bool true, (j45 4), (j45 5), .tuple #[.int .u64 vt65, .int .u64 vt66], .int .u64 r46, .int .u64 bit47, .int .u64 (Go.bits .or .u64 r46 bit47), .int .u64 r46, .int .u64 bit47, .int .u64 (Go.bits .or .u64 r46 bit47), .tuple #[.int .u64 vt65, .int .u64 vt66], .int .u64 vt65, .int .u64 vt66, .int .u64 vt65, .int .u64 vt18, .bool true, .bool true, undef, undef, undef, undef, undef, undef, undef, undef, .bool true, (j45 29), (j45 30), (j45 31), undef, undef], []⟩) (by kernel_rfl) ?_
          refine wpList_nil ?_
          refine hK73 _ _ ?_
          refine condT (by kernel_rfl) ?_
          refine wp_region_lit ?_
          refine seqS4 (a' := ⟨#[.int .i64 a1, .int .i64 b2, undef, undef, .int .i64 0, .int .u64 vt18, .int .u64 vt19, .int .u64 (Go.bits .or .u64 r46 bit47), .int .u64 bit47, .int .u64 vt65, .int .u64 vt66, .int .i64 a1, .bool false, .bool false, .int .i64 b2, .bool false, .bool false, .tuple #[.int .u64 vt18, .int .u64 vt19], .int .i64 a1, .int .u64 (u64 (a1)), .int .i64 b2, .int .u64 (u64 (b2)), .tuple #[.int .u64 vt18, .int .u64 vt19], .int .u64 vt18, .int .u64 vt19, .int .u64 bit47, .bool true, (j45 4), (j45 5), .tuple #[.int .u64 vt65, .int .u64 vt66], .int .u64 r46, .int .u64 bit47, .int .u64 (Go.bits .or .u64 r46 bit47), .int .u64 r46, .int .u64 bit47, .int .u64 (Go.bits .or .u64 r46 bit47), .tuple #[.int .u64 vt65, .int .u64 vt66], .int .u64 vt65, .int .u64 vt66, .int .u64 vt65, .int .u64 vt18, .bool true, .bool true, undef, undef, undef, undef, undef, undef, undef, undef, .bool true, .int .u64 r46, .int .u64 bit47, .int .u64 (Go.bits .or .u64 r46 bit47), undef, undef], []⟩) (by kernel_rfl) ?_
          refine wpList_nil ?_
          refine hn58 _ _ ?_
          refine hK55 _ _ ?_
          refine wp_region_lit ?_
          refine seqS3 (a' := ⟨#[.int .i64 a1, .int .i64 b2, undef, undef, .int .i64 0, .int .u64 vt18, .int .u64 vt19, .int .u64 (Go.bits .or .u64 r46 bit47), .int .u64 (shr bit47 1), .int .u64 vt65, .int .u64 vt66, .int .i64 a1, .bool false, .bool false, .int .i64 b2, .bool false, .bool false, .tuple #[.int .u64 vt18, .int .u64 vt19], .int .i64 a1, .int .u64 (u64 (a1)), .int .i64 b2, .int .u64 (u64 (b2)), .tuple #[.int .u64 vt18, .int .u64 vt19], .int .u64 vt18, .int .u64 vt19, .int .u64 bit47, .bool true, .int .u64 bit47, .int .u64 (shr bit47 1), .tuple #[.int .u64 vt65, .int .u64 vt66], .int .u64 r46, .int .u64 bit47, .int .u64 (Go.bits .or .u64 r46 bit47), .int .u64 r46, .int .u64 bit47, .int .u64 (Go.bits .or .u64 r46 bit47), .tuple #[.int .u64 vt65, .int .u64 vt66], .int .u64 vt65, .int .u64 vt66, .int .u64 vt65, .int .u64 vt18, .bool true, .bool true, undef, undef, undef, undef, undef, undef, undef, undef, .bool true, .int .u64 r46, .int .u64 bit47, .int .u64 (Go.bits .or .u64 r46 bit47), undef, undef], []⟩) (by kernel_rfl) ?_
          refine wpList_nil ?_
          refine hK39 n40 _ _ (Nat.lt_succ_self _) ?_
          exact ⟨f68, (Go.bits .or .u64 r46 bit47), (shr bit47 1), (fun i_ => [Value.int .u64 vt65, Value.int .u64 vt66, Value.int .u64 bit47, Value.bool true, Value.int .u64 bit47, Value.int .u64 (shr bit47 1), Value.tuple #[.int .u64 vt65, .int .u64 vt66], Value.int .u64 r46, Value.int .u64 bit47, Value.int .u64 (Go.bits .or .u64 r46 bit47), Value.int .u64 r46, Value.int .u64 bit47, Value.int .u64 (Go.bits .or .u64 r46 bit47), Value.tuple #[.int .u64 vt65, .int .u64 vt66], Value.int .u64 vt65, Value.int .u64 vt66, Value.int .u64 vt65, Value.int .u64 vt18, Value.bool true, Value.bool true, undef, undef, undef, undef, undef, undef, undef, undef, Value.bool true, Value.int .u64 r46, Value.int .u64 bit47, Value.int .u64 (Go.bits .or .u64 r46 bit47)].getD i_ undef), (L42.trans L69), HS71, h, (by kernel_rfl)⟩
        · have c74 : ¬ (vt65 < vt18) := c74
          refine seqRwI 41 (x := (decide (vt65 < vt18))) (v := false) (by kernel_rfl) (decide_eq_false c74) ?_
          refine seqRwI 42 (x := (decide (vt65 < vt18))) (v := false) (by kernel_rfl) (decide_eq_false c74) ?_
          refine seqS4 (a' := ⟨#[.int .i64 a1, .int .i64 b2, undef, undef, .int .i64 0, .int .u64 vt18, .int .u64 vt19, .int .u64 r46, .int .u64 bit47, .int .u64 vt65, .int .u64 vt66, .int .i64 a1, .bool false, .bool false, .int .i64 b2, .bool false, .bool false, .tuple #[.int .u64 vt18, .int .u64 vt19], .int .i64 a1, .int .u64 (u64 (a1)), .int .i64 b2, .int .u64 (u64 (b2)), .tuple #[.int .u64 vt18, .int .u64 vt19], .int .u64 vt18, .int .u64 vt19, .int .u64 bit47, .bool true, (j45 4), (j45 5), .tuple #[.int .u64 vt65, .int .u64 vt66], .int .u64 r46, .int .u64 bit47, .int .u64 (Go.bits .or .u64 r46 bit47), .int .u64 r46, .int .u64 bit47, .int .u64 (Go.bits .or .u64 r46 bit47), .tuple #[.int .u64 vt65, .int .u64 vt66], .int .u64 vt65, .int .u64 vt66, .int .u64 vt65, .int .u64 vt18, .bool false, .bool false, .int .u64 vt65, .int .u64 vt18, .bool (vt65 == vt18), .bool (vt65 == vt18), (j45 24), (j45 25), (j45 26), (j45 27), (j45 28), (j45 29), (j45 30), (j45 31), undef, undef], []⟩) (by kernel_rfl) ?_
          have hq_ := ite_some h; clear h; rcases hq_ with ⟨c75, h⟩ | ⟨c75, h⟩
          · have c75 : vt65 = vt18 := c75
            refine seqRwI 45 (x := (vt65 == vt18)) (v := true) (by kernel_rfl) (beq_iff_eq.mpr c75) ?_
            refine seqRwI 46 (x := (vt65 == vt18)) (v := true) (by kernel_rfl) (beq_iff_eq.mpr c75) ?_
            refine seqS5 (a' := ⟨#[.int .i64 a1, .int .i64 b2, undef, undef, .int .i64 0, .int .u64 vt18, .int .u64 vt19, .int .u64 r46, .int .u64 bit47, .int .u64 vt65, .int .u64 vt66, .int .i64 a1, .bool false, .bool false, .int .i64 b2, .bool false, .bool false, .tuple #[.int .u64 vt18, .int .u64 vt19], .int .i64 a1, .int .u64 (u64 (a1)), .int .i64 b2, .int .u64 (u64 (b2)), .tuple #[.int .u64 vt18, .int .u64 vt19], .int .u64 vt18, .int .u64 vt19, .int .u64 bit47, .bool true, (j45 4), (j45 5), .tuple #[.int .u64 vt65, .int .u64 vt66], .int .u64 r46, .int .u64 bit47, .int .u64 (Go.bits .or .u64 r46 bit47), .int .u64 r46, .int .u64 bit47, .int .u64 (Go.bits .or .u64 r46 bit47), .tuple #[.int .u64 vt65, .int .u64 vt66], .int .u64 vt65, .int .u64 vt66, .int .u64 vt65, .int .u64 vt18, .bool false, .bool false, .int .u64 vt65, .int .u64 vt18, .bool true, .bool true, .int .u64 vt66, .int .u64 vt19, .bool (decide (vt66 ≤ vt19)), .bool (decide (vt66 ≤ vt19)), .bool (decide (vt66 ≤ vt19)), (j45 29), (j45 30), (j45 31), undef, undef], []⟩) (by kernel_rfl) ?_
            refine wpList_nil ?_
            refine hK73 _ _ ?_
            have hq_ := ite_some h; clear h; rcases hq_ with ⟨c77, h⟩ | ⟨c77, h⟩
            · have c77 : vt66 ≤ vt19 := c77
              refine wpRwI 49 (x := (decide (vt66 ≤ vt19))) (v := true) (by kernel_rfl) (decide_eq_true c77) ?_
              refine wpRwI 50 (x := (decide (vt66 ≤ vt19))) (v := true) (by kernel_rfl) (decide_eq_true c77) ?_
              refine wpRwI 51 (x := (decide (vt66 ≤ vt19))) (v := true) (by kernel_rfl) (decide_eq_true c77) ?_
              refine condT (by kernel_rfl) ?_
              refine wp_region_lit ?_
              refine seqS4 (a' := ⟨#[.int .i64 a1, .int .i64 b2, undef, undef, .int .i64 0, .int .u64 vt18, .int .u64 vt19, .int .u64 (Go.bits .or .u64 r46 bit47), .int .u64 bit47, .int .u64 vt65, .int .u64 vt66, .int .i64 a1, .bool false, .bool false, .int .i64 b2, .bool false, .bool false, .tuple #[.int .u64 vt18, .int .u64 vt19], .int .i64 a1, .int .u64 (u64 (a1)), .int .i64 b2, .int .u64 (u64 (b2)), .tuple #[.int .u64 vt18, .int .u64 vt19], .int .u64 vt18, .int .u64 vt19, .int .u64 bit47, .bool true, (j45 4), (j45 5), .tuple #[.int .u64 vt65, .int .u64 vt66], .int .u64 r46, .int .u64 bit47, .int .u64 (Go.bits .or .u64 r46 bit47), .int .u64 r46, .int .u64 bit47, .int .u64 (Go.bits .or .u64 r46 bit47), .tuple #[.int .u64 vt65, .int .u64 vt66], .int .u64 vt65, .int .u64 vt66, .int .u64 vt65, .int .u64 vt18, .bool false, .bool false, .int .u64 vt65, .int .u64 vt18, .bool true, .bool true, .int .u64 vt66, .int .u64 vt19, .bool true, .bool true, .bool true, .int .u64 r46, .int .u64 bit47, .int .u64 (Go.bits .or .u64 r46 bit47), undef, undef], []⟩) (by kernel_rfl) ?_
              refine wpList_nil ?_
              refine hn58 _ _ ?_
              refine hK55 _ _ ?_
              refine wp_region_lit ?_
              refine seqS3 (a' := ⟨#[.int .i64 a1, .int .i64 b2, undef, undef, .int .i64 0, .int .u64 vt18, .int .u64 vt19, .int .u64 (Go.bits .or .u64 r46 bit47), .int .u64 (shr bit47 1), .int .u64 vt65, .int .u64 vt66, .int .i64 a1, .bool false, .bool false, .int .i64 b2, .bool false, .bool false, .tuple #[.int .u64 vt18, .int .u64 vt19], .int .i64 a1, .int .u64 (u64 (a1)), .int .i64 b2, .int .u64 (u64 (b2)), .tuple #[.int .u64 vt18, .int .u64 vt19], .int .u64 vt18, .int .u64 vt19, .int .u64 bit47, .bool true, .int .u64 bit47, .int .u64 (shr bit47 1), .tuple #[.int .u64 vt65, .int .u64 vt66], .int .u64 r46, .int .u64 bit47, .int .u64 (Go.bits .or .u64 r46 bit47), .int .u64 r46, .int .u64 bit47, .int .u64 (Go.bits .or .u64 r46 bit47), .tuple #[.int .u64 vt65, .int .u64 vt66], .int .u64 vt65, .int .u64 vt66, .int .u64 vt65, .int .u64 vt18, .bool false, .bool false, .int .u64 vt65, .int .u64 vt18, .bool true, .bool true, .int .u64 vt66, .int .u64 vt19, .bool true, .bool true, .bool true, .int .u64 r46, .int .u64 bit47, .int .u64 (Go.bits .or .u64 r46 bit47), undef, undef], []⟩) (by kernel_rfl) ?_
              refine wpList_nil ?_
              refine hK39 n40 _ _ (Nat.lt_succ_self _) ?_
              exact ⟨f68, (Go.bits .or .u64 r46 bit47), (shr bit47 1), (fun i_ => [Value.int .u64 vt65, Value.int .u64 vt66, Value.int .u64 bit47, Value.bool true, Value.int .u64 bit47, Value.int .u64 (shr bit47 1), Value.tuple #[.int .u64 vt65, .int .u64 vt66], Value.int .u64 r46, Value.int .u64 bit47, Value.int .u64 (Go.bits .or .u64 r46 bit47), Value.int .u64 r46, Value.int .u64 bit47, Value.int .u64 (Go.bits .or .u64 r46 bit47), Value.tuple #[.int .u64 vt65, .int .u64 vt66], Value.int .u64 vt65, Value.int .u64 vt66, Value.int .u64 vt65, Value.int .u64 vt18, Value.bool false, Value.bool false, Value.int .u64 vt65, Value.int .u64 vt18, Value.bool true, Value.bool true, Value.int .u64 vt66, Value.int .u64 vt19, Value.bool true, Value.bool true, Value.bool true, Value.int .u64 r46, Value.int .u64 bit47, Value.int .u64 (Go.bits .or .u64 r46 bit47)].getD i_ undef), (L42.trans L69), HS71, h, (by kernel_rfl)⟩
            · have c77 : ¬ (vt66 ≤ vt19) := c77
              refine wpRwI 49 (x := (decide (vt66 ≤ vt19))) (v := false) (by kernel_rfl) (decide_eq_false c77) ?_
              refine wpRwI 50 (x := (decide (vt66 ≤ vt19))) (v := false) (by kernel_rfl) (decide_eq_false c77) ?_
              refine wpRwI 51 (x := (decide (vt66 ≤ vt19))) (v := false) (by kernel_rfl) (decide_eq_false c77) ?_
              refine condF (by kernel_rfl) ?_
              refine wp_skip ?_
              refine hn58 _ _ ?_
              refine hK55 _ _ ?_
              refine wp_region_lit ?_
              refine seqS3 (a' := ⟨#[.int .i64 a1, .int .i64 b2, undef, undef, .int .i64 0, .int .u64 vt18, .int .u64 vt19, .int .u64 r46, .int .u64 (shr bit47 1), .int .u64 vt65, .int .u64 vt66, .int .i64 a1, .bool false, .bool false, .int .i64 b2, .bool false, .bool false, .tuple #[.int .u64 vt18, .int .u64 vt19], .int .i64 a1, .int .u64 (u64 (a1)), .int .i64 b2, .int .u64 (u64 (b2)), .tuple #[.int .u64 vt18, .int .u64 vt19], .int .u64 vt18, .int .u64 vt19, .int .u64 bit47, .bool true, .int .u64 bit47, .int .u64 (shr bit47 1), .tuple #[.int .u64 vt65, .int .u64 vt66], .int .u64 r46, .int .u64 bit47, .int .u64 (Go.bits .or .u64 r46 bit47), .int .u64 r46, .int .u64 bit47, .int .u64 (Go.bits .or .u64 r46 bit47), .tuple #[.int .u64 vt65, .int .u64 vt66], .int .u64 vt65, .int .u64 vt66, .int .u64 vt65, .int .u64 vt18, .bool false, .bool false, .int .u64 vt65, .int .u64 vt18, .bool true, .bool true, .int .u64 vt66, .int .u64 vt19, .bool false, .bool false, .bool false, (j45 29), (j45 30), (j45 31), undef, undef], []⟩) (by kernel_rfl) ?_
              refine wpList_nil ?_
              refine hK39 n40 _ _ (Nat.lt_succ_self _) ?_
              exact ⟨f68, r46, (shr bit47 1), (fun i_ => [Value.int .u64 vt65, Value.int .u64 vt66, Value.int .u64 bit47, Value.bool true, Value.int .u64 bit47, Value.int .u64 (shr bit47 1), Value.tuple #[.int .u64 vt65, .int .u64 vt66], Value.int .u64 r46, Value.int .u64 bit47, Value.int .u64 (Go.bits .or .u64 r46 bit47), Value.int .u64 r46, Value.int .u64 bit47, Value.int .u64 (Go.bits .or .u64 r46 bit47), Value.tuple #[.int .u64 vt65, .int .u64 vt66], Value.int .u64 vt65, Value.int .u64 vt66, Value.int .u64 vt65, Value.int .u64 vt18, Value.bool false, Value.bool false, Value.int .u64 vt65, Value.int .u64 vt18, Value.bool true, Value.bool true, Value.int .u64 vt66, Value.int .u64 vt19, Value.bool false, Value.bool false, Value.bool false, (j45 29), (j45 30), (j45 31)].getD i_ undef), (L42.trans L69), HS71, h, (by kernel_rfl)⟩
          · have c75 : ¬ (vt65 = vt18) := c75
            refine seqRwI 45 (x := (vt65 == vt18)) (v := false) (by kernel_rfl) (beq_eq_false_iff_ne.mpr c75) ?_
            refine seqRwI 46 (x := (vt65 == vt18)) (v := false) (by kernel_rfl) (beq_eq_false_iff_ne.mpr c75) ?_
            refine seqS5 (a' := ⟨#[.int .i64 a1, .int .i64 b2, undef, undef, .int .i64 0, .int .u64 vt18, .int .u64 vt19, .int .u64 r46, .int .u64 bit47, .int .u64 vt65, .int .u64 vt66, .int .i64 a1, .bool false, .bool false, .int .i64 b2, .bool false, .bool false, .tuple #[.int .u64 vt18, .int .u64 vt19], .int .i64 a1, .int .u64 (u64 (a1)), .int .i64 b2, .int .u64 (u64 (b2)), .tuple #[.int .u64 vt18, .int .u64 vt19], .int .u64 vt18, .int .u64 vt19, .int .u64 bit47, .bool true, (j45 4), (j45 5), .tuple #[.int .u64 vt65, .int .u64 vt66], .int .u64 r46, .int .u64 bit47, .int .u64 (Go.bits .or .u64 r46 bit47), .int .u64 r46, .int .u64 bit47, .int .u64 (Go.bits .or .u64 r46 bit47), .tuple #[.int .u64 vt65, .int .u64 vt66], .int .u64 vt65, .int .u64 vt66, .int .u64 vt65, .int .u64 vt18, .bool false, .bool false, .int .u64 vt65, .int .u64 vt18, .bool false, .bool false, undef, undef, undef, .bool false, .bool false, (j45 29), (j45 30), (j45 31), undef, undef], []⟩) (by kernel_rfl) ?_
            refine wpList_nil ?_
            refine hK73 _ _ ?_
            refine condF (by kernel_rfl) ?_
            refine wp_skip ?_
            refine hn58 _ _ ?_
            refine hK55 _ _ ?_
            refine wp_region_lit ?_
            refine seqS3 (a' := ⟨#[.int .i64 a1, .int .i64 b2, undef, undef, .int .i64 0, .int .u64 vt18, .int .u64 vt19, .int .u64 r46, .int .u64 (shr bit47 1), .int .u64 vt65, .int .u64 vt66, .int .i64 a1, .bool false, .bool false, .int .i64 b2, .bool false, .bool false, .tuple #[.int .u64 vt18, .int .u64 vt19], .int .i64 a1, .int .u64 (u64 (a1)), .int .i64 b2, .int .u64 (u64 (b2)), .tuple #[.int .u64 vt18, .int .u64 vt19], .int .u64 vt18, .int .u64 vt19, .int .u64 bit47, .bool true, .int .u64 bit47, .int .u64 (shr bit47 1), .tuple #[.int .u64 vt65, .int .u64 vt66], .int .u64 r46, .int .u64 bit47, .int .u64 (Go.bits .or .u64 r46 bit47), .int .u64 r46, .int .u64 bit47, .int .u64 (Go.bits .or .u64 r46 bit47), .tuple #[.int .u64 vt65, .int .u64 vt66], .int .u64 vt65, .int .u64 vt66, .int .u64 vt65, .int .u64 vt18, .bool false, .bool false, .int .u64 vt65, .int .u64 vt18, .bool false, .bool false, undef, undef, undef, .bool false, .bool false, (j45 29), (j45 30), (j45 31), undef, undef], []⟩) (by kernel_rfl) ?_
            refine wpList_nil ?_
            refine hK39 n40 _ _ (Nat.lt_succ_self _) ?_
            exact ⟨f68, r46, (shr bit47 1), (fun i_ => [Value.int .u64 vt65, Value.int .u64 vt66, Value.int .u64 bit47, Value.bool true, Value.int .u64 bit47, Value.int .u64 (shr bit47 1), Value.tuple #[.int .u64 vt65, .int .u64 vt66], Value.int .u64 r46, Value.int .u64 bit47, Value.int .u64 (Go.bits .or .u64 r46 bit47), Value.int .u64 r46, Value.int .u64 bit47, Value.int .u64 (Go.bits .or .u64 r46 bit47), Value.tuple #[.int .u64 vt65, .int .u64 vt66], Value.int .u64 vt65, Value.int .u64 vt66, Value.int .u64 vt65, Value.int .u64 vt18, Value.bool false, Value.bool false, Value.int .u64 vt65, Value.int .u64 vt18, Value.bool false, Value.bool false, undef, undef, undef, Value.bool false, Value.bool false, (j45 29), (j45 30), (j45 31)].getD i_ undef), (L42.trans L69), HS71, h, (by kernel_rfl)⟩
      · have c53 : ¬ (bit47 > 0) := c53
        refine wpRwI 26 (x := (decide (bit47 > 0))) (v := false) (by kernel_rfl) (decide_eq_false c53) ?_
        refine condF (by kernel_rfl) ?_
        refine wp_exit ?_
        refine hx32 _ _ ?_
        exact J85 f41 r46 (fun i_ => [Value.int .u64 bit47, (j45 0), (j45 1), Value.int .u64 bit47, Value.bool false, (j45 4), (j45 5), (j45 6), (j45 7), (j45 8), (j45 9), (j45 10), (j45 11), (j45 12), (j45 13), (j45 14), (j45 15), (j45 16), (j45 17), (j45 18), (j45 19), (j45 20), (j45 21), (j45 22), (j45 23), (j45 24), (j45 25), (j45 26), (j45 27), (j45 28), (j45 29), (j45 30), (j45 31)].getD i_ undef) W43 _ L42 h HS44 (by kernel_rfl)

set_option maxRecDepth 100000 in
set_option maxHeartbeats 4000000 in
theorem num_Sqrt.calls (k : Nat)  (a1 : Int) {t w : World} {f : FM} {H : List Seg} (HS : St t w f (H)) (r1 : Int) (h : num_Sqrt k a1 = some r1) :
    Calls Try.prog 27 #[.int .i64 a1] w (fun e w' => ∃ (g : FM), e = .returned (Value.int .i64 r1) ∧ FM.le f g ∧ St t w' g (H)) := by
  unfold num_Sqrt at h
  refine enter Try.func27 rfl (tm := #[.int .i64 a1, undef, undef, undef, undef]) (by kernel_rfl) ?_
  intro B hret hnor hnp
  refine wp_seq_k (fun K2 hK3 => ?_)
  refine wp_region_lit ?_
  refine seqS1 (a' := ⟨#[.int .i64 a1, undef, .int .i64 0, undef, undef], []⟩) (by kernel_rfl) ?_
  refine wpList_nil ?_
  refine hK3 _ _ ?_
  refine wp_seq_k (fun K4 hK5 => ?_)
  refine wp_region_lit ?_
  have hq_ := bind_some h; clear h; obtain ⟨vt6, hc7, h⟩ := hq_
  refine seqL1 (by kernel_rfl) ?_
  refine seqK rfl (does_call (f := 44) (args := #[.int .i64 a1, .int .i64 1]) (by kernel_rfl) (num_SqrtMul.calls k a1 1 HS vt6 hc7) ?_)
  rintro _ W10 ⟨f8, rfl, L9, HS11⟩
  refine ⟨_, rfl, ?_⟩
  refine seqS1 (a' := ⟨#[.int .i64 a1, undef, .int .i64 vt6, .int .i64 a1, .int .i64 vt6], []⟩) (by kernel_rfl) ?_
  refine wpList_nil ?_
  refine hK5 _ _ ?_
  refine wp_ret ?_
  refine hret _ _ ?_
  refine ends_still (v := Value.int .i64 vt6) (by kernel_rfl) (by kernel_rfl) ?_
  injection h with h
  subst h
  exact ⟨f8, rfl, L9, HS11⟩

set_option maxRecDepth 100000 in
set_option maxHeartbeats 4000000 in
theorem num_size.calls (k : Nat)  (a1 : Int) {t w : World} {f : FM} {H : List Seg} (HS : St t w f (H)) (r1 : Int) (h : num_size k a1 = some r1) :
    Calls Try.prog 55 #[.int .i64 a1] w (fun e w' => ∃ (g : FM), e = .returned (Value.int .u64 r1) ∧ FM.le f g ∧ St t w' g (H)) := by
  unfold num_size at h
  refine enter Try.func55 rfl (tm := #[.int .i64 a1, undef, undef, undef, undef, undef, undef, undef, undef, undef]) (by kernel_rfl) ?_
  intro B hret hnor hnp
  refine wp_seq_k (fun K2 hK3 => ?_)
  refine wp_region_lit ?_
  refine seqS1 (a' := ⟨#[.int .i64 a1, undef, .int .u64 0, undef, undef, undef, undef, undef, undef, undef], []⟩) (by kernel_rfl) ?_
  refine wpList_nil ?_
  refine hK3 _ _ ?_
  refine wp_seq_k (fun K4 hK5 => ?_)
  refine wp_seq_k (fun K6 hK7 => ?_)
  refine wp_region_lit ?_
  refine seqS2 (a' := ⟨#[.int .i64 a1, undef, .int .u64 0, .int .i64 a1, .bool (decide (a1 < 0)), undef, undef, undef, undef, undef], []⟩) (by kernel_rfl) ?_
  refine wpList_nil ?_
  refine hK7 _ _ ?_
  have hq_ := ite_some h; clear h; rcases hq_ with ⟨c9, h⟩ | ⟨c9, h⟩
  · have c9 : a1 < 0 := c9
    refine wpRwI 4 (x := (decide (a1 < 0))) (v := true) (by kernel_rfl) (decide_eq_true c9) ?_
    refine condT (by kernel_rfl) ?_
    refine wp_seq_k (fun K10 hK11 => ?_)
    refine wp_region_lit ?_
    refine seqS4 (a' := ⟨#[.int .i64 a1, undef, .int .u64 (u64 (0 - (u64 (a1)))), .int .i64 a1, .bool true, .int .i64 a1, .int .u64 (u64 (a1)), .int .u64 (u64 (0 - (u64 (a1)))), undef, undef], []⟩) (by kernel_rfl) ?_
    refine wpList_nil ?_
    refine hK11 _ _ ?_
    refine wp_ret ?_
    refine hret _ _ ?_
    refine ends_still (v := Value.int .u64 (u64 (0 - (u64 (a1))))) (by kernel_rfl) (by kernel_rfl) ?_
    injection h with h
    subst h
    exact ⟨f, rfl, FM.le.refl _, HS⟩
  · have c9 : ¬ (a1 < 0) := c9
    refine wpRwI 4 (x := (decide (a1 < 0))) (v := false) (by kernel_rfl) (decide_eq_false c9) ?_
    refine condF (by kernel_rfl) ?_
    refine wp_skip ?_
    refine hK5 _ _ ?_
    refine wp_seq_k (fun K12 hK13 => ?_)
    refine wp_region_lit ?_
    refine seqS3 (a' := ⟨#[.int .i64 a1, undef, .int .u64 (u64 (a1)), .int .i64 a1, .bool false, undef, undef, undef, .int .i64 a1, .int .u64 (u64 (a1))], []⟩) (by kernel_rfl) ?_
    refine wpList_nil ?_
    refine hK13 _ _ ?_
    refine wp_ret ?_
    refine hret _ _ ?_
    refine ends_still (v := Value.int .u64 (u64 (a1))) (by kernel_rfl) (by kernel_rfl) ?_
    injection h with h
    subst h
    exact ⟨f, rfl, FM.le.refl _, HS⟩

set_option maxRecDepth 100000 in
set_option maxHeartbeats 4000000 in
theorem num_Wide_Neg.calls (k : Nat)  (vw1 : S_Wide) {t w : World} {f : FM} {H : List Seg} (HS : St t w f (H)) (r1 : S_Wide) (h : num_Wide_Neg k vw1 = some r1) :
    Calls Try.prog 56 #[.agg #[.int .i64 vw1.Hi, .int .u64 vw1.Lo]] w (fun e w' => ∃ (g : FM), e = .returned (Value.agg #[.int .i64 r1.Hi, .int .u64 r1.Lo]) ∧ FM.le f g ∧ St t w' g (H)) := by
  unfold num_Wide_Neg at h
  refine enter Try.func56 rfl (tm := #[.agg #[.int .i64 vw1.Hi, .int .u64 vw1.Lo], undef, undef, undef, undef, undef, undef, undef, undef, undef, undef, undef, undef, undef, undef, undef, undef, undef, undef, undef, undef, undef, undef, undef, undef, undef, undef]) (by kernel_rfl) ?_
  intro B hret hnor hnp
  refine wp_seq_k (fun K2 hK3 => ?_)
  refine wp_region_lit ?_
  refine seqK rfl (does_box (cs := #[.int .i64 vw1.Hi, .int .u64 vw1.Lo]) rfl (by kernel_rfl : _ = Value.agg #[.int .i64 vw1.Hi, .int .u64 vw1.Lo]) rfl HS ?_)
  intro b4 W5 HS6
  refine seqK rfl (does_alloc (z := Value.agg #[.int .i64 0, .int .u64 0]) (cs := #[.int .i64 0, .int .u64 0]) rfl (by kernel_rfl) rfl HS6 ?_)
  intro b8 W9 HS10
  refine wpList_nil ?_
  refine hK3 _ _ ?_
  refine wp_seq_k (fun K12 hK13 => ?_)
  refine wp_region_lit ?_
  refine seqL1 (by kernel_rfl) ?_
  refine seqK rfl (does_run (run_load rfl Try.underlying84 rfl (by kernel_rfl : _ = Value.pointer (some ⟨b4, 1, none⟩)) (HS10.u1.cell 1)) ?_)
  have hq_ := guard_some h; clear h; obtain ⟨c14, h⟩ := hq_
  have c14 : 0 ≤ (Go.bits .xor .u64 IntKind.u64.max vw1.Lo) := c14
  refine seqL1 (by kernel_rfl) ?_
  refine seqK rfl (does_run (run_add64op (x := Go.bits .xor .u64 IntKind.u64.max vw1.Lo) (y := 1) (c := 0) (by kernel_rfl) Try.func63 (by kernel_rfl) (by kernel_rfl) (by kernel_rfl) (by kernel_rfl) c14 (by decide) (by decide) (by decide) W9) ?_)
  refine seqS5 (a' := ⟨#[.agg #[.int .i64 vw1.Hi, .int .u64 vw1.Lo], .pointer (some ⟨b4, 0, none⟩), .pointer (some ⟨b8, 0, none⟩), .int .u64 (((Go.bits .xor .u64 IntKind.u64.max vw1.Lo) + 1 + 0) % 18446744073709551616), .int .u64 (((Go.bits .xor .u64 IntKind.u64.max vw1.Lo) + 1 + 0) / 18446744073709551616), undef, undef, .tuple #[.int .u64 (((Go.bits .xor .u64 IntKind.u64.max vw1.Lo) + 1 + 0) % 18446744073709551616), .int .u64 (((Go.bits .xor .u64 IntKind.u64.max vw1.Lo) + 1 + 0) / 18446744073709551616)], .pointer (some ⟨b4, 1, none⟩), .int .u64 vw1.Lo, .int .u64 (Go.bits .xor .u64 IntKind.u64.max vw1.Lo), .tuple #[.int .u64 (((Go.bits .xor .u64 IntKind.u64.max vw1.Lo) + 1 + 0) % 18446744073709551616), .int .u64 (((Go.bits .xor .u64 IntKind.u64.max vw1.Lo) + 1 + 0) / 18446744073709551616)], .int .u64 (((Go.bits .xor .u64 IntKind.u64.max vw1.Lo) + 1 + 0) % 18446744073709551616), .int .u64 (((Go.bits .xor .u64 IntKind.u64.max vw1.Lo) + 1 + 0) / 18446744073709551616), undef, undef, undef, undef, undef, undef, undef, undef, undef, undef, undef, undef, undef], []⟩) (by kernel_rfl) ?_
  refine wpList_nil ?_
  refine hK13 _ _ ?_
  refine wp_seq_k (fun K15 hK16 => ?_)
  refine wp_region_lit ?_
  refine seqL1 (by kernel_rfl) ?_
  refine seqK rfl (does_run (run_load rfl Try.underlying2 rfl (by kernel_rfl : _ = Value.pointer (some ⟨b4, 0, none⟩)) (HS10.u1.cell 0)) ?_)
  have hq_ := guard_some h; clear h; obtain ⟨c17, h⟩ := hq_
  have c17 : 0 ≤ (Go.bits .xor .u64 IntKind.u64.max (u64 (vw1.Hi))) := c17
  have hq_ := guard_some h; clear h; obtain ⟨c18, h⟩ := hq_
  have c18 : 0 ≤ (((Go.bits .xor .u64 IntKind.u64.max vw1.Lo) + 1 + 0) / 18446744073709551616) := c18
  have hq_ := guard_some h; clear h; obtain ⟨c19, h⟩ := hq_
  have c19 : (((Go.bits .xor .u64 IntKind.u64.max vw1.Lo) + 1 + 0) / 18446744073709551616) ≤ 1 := c19
  refine seqL3 (by kernel_rfl) ?_
  refine seqK rfl (does_run (run_add64op (x := Go.bits .xor .u64 IntKind.u64.max (u64 (vw1.Hi))) (y := 0) (c := ((Go.bits .xor .u64 IntKind.u64.max vw1.Lo) + 1 + 0) / 18446744073709551616) (by kernel_rfl) Try.func63 (by kernel_rfl) (by kernel_rfl) (by kernel_rfl) (by kernel_rfl) c17 (by decide) c18 c19 W9) ?_)
  refine seqS5 (a' := ⟨#[.agg #[.int .i64 vw1.Hi, .int .u64 vw1.Lo], .pointer (some ⟨b4, 0, none⟩), .pointer (some ⟨b8, 0, none⟩), .int .u64 (((Go.bits .xor .u64 IntKind.u64.max vw1.Lo) + 1 + 0) % 18446744073709551616), .int .u64 (((Go.bits .xor .u64 IntKind.u64.max vw1.Lo) + 1 + 0) / 18446744073709551616), .int .u64 (((Go.bits .xor .u64 IntKind.u64.max (u64 (vw1.Hi))) + 0 + (((Go.bits .xor .u64 IntKind.u64.max vw1.Lo) + 1 + 0) / 18446744073709551616)) % 18446744073709551616), .int .u64 (((Go.bits .xor .u64 IntKind.u64.max (u64 (vw1.Hi))) + 0 + (((Go.bits .xor .u64 IntKind.u64.max vw1.Lo) + 1 + 0) / 18446744073709551616)) / 18446744073709551616), .tuple #[.int .u64 (((Go.bits .xor .u64 IntKind.u64.max vw1.Lo) + 1 + 0) % 18446744073709551616), .int .u64 (((Go.bits .xor .u64 IntKind.u64.max vw1.Lo) + 1 + 0) / 18446744073709551616)], .pointer (some ⟨b4, 1, none⟩), .int .u64 vw1.Lo, .int .u64 (Go.bits .xor .u64 IntKind.u64.max vw1.Lo), .tuple #[.int .u64 (((Go.bits .xor .u64 IntKind.u64.max vw1.Lo) + 1 + 0) % 18446744073709551616), .int .u64 (((Go.bits .xor .u64 IntKind.u64.max vw1.Lo) + 1 + 0) / 18446744073709551616)], .int .u64 (((Go.bits .xor .u64 IntKind.u64.max vw1.Lo) + 1 + 0) % 18446744073709551616), .int .u64 (((Go.bits .xor .u64 IntKind.u64.max vw1.Lo) + 1 + 0) / 18446744073709551616), .tuple #[.int .u64 (((Go.bits .xor .u64 IntKind.u64.max (u64 (vw1.Hi))) + 0 + (((Go.bits .xor .u64 IntKind.u64.max vw1.Lo) + 1 + 0) / 18446744073709551616)) % 18446744073709551616), .int .u64 (((Go.bits .xor .u64 IntKind.u64.max (u64 (vw1.Hi))) + 0 + (((Go.bits .xor .u64 IntKind.u64.max vw1.Lo) + 1 + 0) / 18446744073709551616)) / 18446744073709551616)], .pointer (some ⟨b4, 0, none⟩), .int .i64 vw1.Hi, .int .u64 (u64 (vw1.Hi)), .int .u64 (Go.bits .xor .u64 IntKind.u64.max (u64 (vw1.Hi))), .int .u64 (((Go.bits .xor .u64 IntKind.u64.max vw1.Lo) + 1 + 0) / 18446744073709551616), .tuple #[.int .u64 (((Go.bits .xor .u64 IntKind.u64.max (u64 (vw1.Hi))) + 0 + (((Go.bits .xor .u64 IntKind.u64.max vw1.Lo) + 1 + 0) / 18446744073709551616)) % 18446744073709551616), .int .u64 (((Go.bits .xor .u64 IntKind.u64.max (u64 (vw1.Hi))) + 0 + (((Go.bits .xor .u64 IntKind.u64.max vw1.Lo) + 1 + 0) / 18446744073709551616)) / 18446744073709551616)], .int .u64 (((Go.bits .xor .u64 IntKind.u64.max (u64 (vw1.Hi))) + 0 + (((Go.bits .xor .u64 IntKind.u64.max vw1.Lo) + 1 + 0) / 18446744073709551616)) % 18446744073709551616), .int .u64 (((Go.bits .xor .u64 IntKind.u64.max (u64 (vw1.Hi))) + 0 + (((Go.bits .xor .u64 IntKind.u64.max vw1.Lo) + 1 + 0) / 18446744073709551616)) / 18446744073709551616), undef, undef, undef, undef], []⟩) (by kernel_rfl) ?_
  refine wpList_nil ?_
  refine hK16 _ _ ?_
  refine wp_seq_k (fun K20 hK21 => ?_)
  refine wp_region_lit ?_
  refine seqL4 (by kernel_rfl) ?_
  refine seqK rfl (does_store (n := 2) (vs := [.int .i64 (w64 (((Go.bits .xor .u64 IntKind.u64.max (u64 (vw1.Hi))) + 0 + (((Go.bits .xor .u64 IntKind.u64.max vw1.Lo) + 1 + 0) / 18446744073709551616)) % 18446744073709551616)), .int .u64 (((Go.bits .xor .u64 IntKind.u64.max vw1.Lo) + 1 + 0) % 18446744073709551616)]) (cs' := #[.int .i64 (w64 (((Go.bits .xor .u64 IntKind.u64.max (u64 (vw1.Hi))) + 0 + (((Go.bits .xor .u64 IntKind.u64.max vw1.Lo) + 1 + 0) / 18446744073709551616)) % 18446744073709551616)), .int .u64 (((Go.bits .xor .u64 IntKind.u64.max vw1.Lo) + 1 + 0) % 18446744073709551616)]) rfl (by kernel_rfl) (by kernel_rfl : _ = Value.pointer (some ⟨b8, 0, none⟩)) (by kernel_rfl : _ = Value.agg #[.int .i64 (w64 (((Go.bits .xor .u64 IntKind.u64.max (u64 (vw1.Hi))) + 0 + (((Go.bits .xor .u64 IntKind.u64.max vw1.Lo) + 1 + 0) / 18446744073709551616)) % 18446744073709551616)), .int .u64 (((Go.bits .xor .u64 IntKind.u64.max vw1.Lo) + 1 + 0) % 18446744073709551616)]) rfl rfl (by intro u_ hu_; simp only [List.mem_cons, List.not_mem_nil, or_false] at hu_; rcases hu_ with rfl | rfl <;> rfl) HS10 (Nat.le_of_ble_eq_true rfl) (by kernel_rfl) ?_)
  intro W22 HS23
  refine wpList_nil ?_
  refine hK21 _ _ ?_
  refine wp_ret ?_
  refine hret _ _ ?_
  refine ends (v := Value.agg #[.int .i64 (w64 (((Go.bits .xor .u64 IntKind.u64.max (u64 (vw1.Hi))) + 0 + (((Go.bits .xor .u64 IntKind.u64.max vw1.Lo) + 1 + 0) / 18446744073709551616)) % 18446744073709551616)), .int .u64 (((Go.bits .xor .u64 IntKind.u64.max vw1.Lo) + 1 + 0) % 18446744073709551616)]) (results1 (q1 := .cell 2 95) (by kernel_rfl) (resN (n := 2) (cs := [.int .i64 (w64 (((Go.bits .xor .u64 IntKind.u64.max (u64 (vw1.Hi))) + 0 + (((Go.bits .xor .u64 IntKind.u64.max vw1.Lo) + 1 + 0) / 18446744073709551616)) % 18446744073709551616)), .int .u64 (((Go.bits .xor .u64 IntKind.u64.max vw1.Lo) + 1 + 0) % 18446744073709551616)]) (by kernel_rfl : _ = Value.pointer (some ⟨b8, 0, none⟩)) Try.underlying95 rfl (by kernel_rfl) rfl (HS23.cells 0 2 _ rfl))) (by kernel_rfl) ?_
  have HS24 := HS23.drop
  have HS25 := HS24.drop
  injection h with h
  subst h
  exact ⟨f, rfl, FM.le.refl _, HS25⟩

set_option maxRecDepth 100000 in
set_option maxHeartbeats 4000000 in
theorem num_Product.calls (k : Nat)  (a1 : Int) (b2 : Int) {t w : World} {f : FM} {H : List Seg} (HS : St t w f (H)) (r1 : S_Wide) (h : num_Product k a1 b2 = some r1) :
    Calls Try.prog 45 #[.int .i64 a1, .int .i64 b2] w (fun e w' => ∃ (g : FM), e = .returned (Value.agg #[.int .i64 r1.Hi, .int .u64 r1.Lo]) ∧ FM.le f g ∧ St t w' g (H)) := by
  unfold num_Product at h
  refine enter Try.func45 rfl (tm := #[.int .i64 a1, .int .i64 b2, undef, undef, undef, undef, undef, undef, undef, undef, undef, undef, undef, undef, undef, undef, undef, undef, undef, undef, undef, undef, undef, undef, undef, undef, undef, undef]) (by kernel_rfl) ?_
  intro B hret hnor hnp
  refine wp_seq_k (fun K3 hK4 => ?_)
  refine wp_region_lit ?_
  refine seqK rfl (does_alloc (z := Value.agg #[.int .i64 0, .int .u64 0]) (cs := #[.int .i64 0, .int .u64 0]) rfl (by kernel_rfl) rfl HS ?_)
  intro b5 W6 HS7
  refine wpList_nil ?_
  refine hK4 _ _ ?_
  refine wp_seq_k (fun K9 hK10 => ?_)
  refine wp_region_lit ?_
  have hq_ := bind_some h; clear h; obtain ⟨vt11, hc12, h⟩ := hq_
  refine seqL1 (by kernel_rfl) ?_
  refine seqK rfl (does_call (f := 55) (args := #[.int .i64 a1]) (by kernel_rfl) (num_size.calls k a1 HS7 vt11 hc12) ?_)
  rintro _ W15 ⟨f13, rfl, L14, HS16⟩
  refine ⟨_, rfl, ?_⟩
  have hq_ := bind_some h; clear h; obtain ⟨vt17, hc18, h⟩ := hq_
  refine seqL1 (by kernel_rfl) ?_
  refine seqK rfl (does_call (f := 55) (args := #[.int .i64 b2]) (by kernel_rfl) (num_size.calls k b2 HS16 vt17 hc18) ?_)
  rintro _ W21 ⟨f19, rfl, L20, HS22⟩
  refine ⟨_, rfl, ?_⟩
  have hq_ := bind_some h; clear h; obtain ⟨⟨vt23, vt24⟩, hc25, h⟩ := hq_
  refine seqK rfl (does_call (f := 54) (args := #[.int .u64 vt11, .int .u64 vt17]) (by kernel_rfl) (bits_Mul64.calls k vt11 vt17 HS22 vt23 vt24 hc25) ?_)
  rintro _ W28 ⟨f26, rfl, L27, HS29⟩
  refine ⟨_, rfl, ?_⟩
  refine seqS5 (a' := ⟨#[.int .i64 a1, .int .i64 b2, undef, undef, .pointer (some ⟨b5, 0, none⟩), .int .u64 vt23, .int .u64 vt24, undef, .tuple #[.int .u64 vt23, .int .u64 vt24], .int .i64 a1, .int .u64 vt11, .int .i64 b2, .int .u64 vt17, .tuple #[.int .u64 vt23, .int .u64 vt24], .int .u64 vt23, .int .u64 vt24, undef, undef, undef, undef, undef, undef, undef, undef, undef, undef, undef, undef], []⟩) (by kernel_rfl) ?_
  refine wpList_nil ?_
  refine hK10 _ _ ?_
  refine wp_seq_k (fun K30 hK31 => ?_)
  refine wp_region_lit ?_
  refine seqL4 (by kernel_rfl) ?_
  refine seqK rfl (does_alloc (z := Value.agg #[.int .i64 0, .int .u64 0]) (cs := #[.int .i64 0, .int .u64 0]) rfl (by kernel_rfl) rfl HS29 ?_)
  intro b32 W33 HS34
  refine seqK rfl (does_store (n := 2) (vs := [.int .i64 (w64 (vt23)), .int .u64 vt24]) (cs' := #[.int .i64 (w64 (vt23)), .int .u64 vt24]) rfl (by kernel_rfl) (by kernel_rfl : _ = Value.pointer (some ⟨b32, 0, none⟩)) (by kernel_rfl : _ = Value.agg #[.int .i64 (w64 (vt23)), .int .u64 vt24]) rfl rfl (by intro u_ hu_; simp only [List.mem_cons, List.not_mem_nil, or_false] at hu_; rcases hu_ with rfl | rfl <;> rfl) HS34 (Nat.le_of_ble_eq_true rfl) (by kernel_rfl) ?_)
  intro W36 HS37
  refine wpList_nil ?_
  refine hK31 _ _ ?_
  refine wp_seq_k (fun K38 hK39 => ?_)
  refine wp_seq_k (fun K40 hK41 => ?_)
  refine wp_region_lit ?_
  refine seqS5 (a' := ⟨#[.int .i64 a1, .int .i64 b2, undef, undef, .pointer (some ⟨b5, 0, none⟩), .int .u64 vt23, .int .u64 vt24, .pointer (some ⟨b32, 0, none⟩), .tuple #[.int .u64 vt23, .int .u64 vt24], .int .i64 a1, .int .u64 vt11, .int .i64 b2, .int .u64 vt17, .tuple #[.int .u64 vt23, .int .u64 vt24], .int .u64 vt23, .int .u64 vt24, .int .u64 vt23, .int .i64 (w64 (vt23)), .int .u64 vt24, .agg #[.int .i64 (w64 (vt23)), .int .u64 vt24], .int .i64 a1, .bool (decide (a1 < 0)), .int .i64 b2, .bool (decide (b2 < 0)), .bool ((decide (a1 < 0)) != (decide (b2 < 0))), undef, undef, undef], []⟩) (by kernel_rfl) ?_
  refine wpList_nil ?_
  refine hK41 _ _ ?_
  have hq_ := ite_some h; clear h; rcases hq_ with ⟨c43, h⟩ | ⟨c43, h⟩
  · have c43 : ((decide (a1 < 0)) != (decide (b2 < 0))) = true := c43
    refine wpRwI 24 (x := ((decide (a1 < 0)) != (decide (b2 < 0)))) (v := true) (by kernel_rfl) c43 ?_
    refine condT (by kernel_rfl) ?_
    refine wp_seq_k (fun K44 hK45 => ?_)
    refine wp_region_lit ?_
    refine seqK rfl (does_run (run_loadN (n := 2) rfl Try.underlying95 rfl (by kernel_rfl) (by kernel_rfl : _ = Value.pointer (some ⟨b32, 0, none⟩)) (cs := [.int .i64 (w64 (vt23)), .int .u64 vt24]) rfl (HS37.cells 0 2 _ rfl)) ?_)
    have hq_ := bind_some h; clear h; obtain ⟨vt46, hc47, h⟩ := hq_
    refine seqK rfl (does_call (f := 56) (args := #[.agg #[.int .i64 (w64 (vt23)), .int .u64 vt24]]) (by kernel_rfl) (num_Wide_Neg.calls k (⟨w64 (vt23), vt24⟩ : S_Wide) HS37 vt46 hc47) ?_)
    rintro _ W50 ⟨f48, rfl, L49, HS51⟩
    refine ⟨_, rfl, ?_⟩
    have HS52 := HS51.u1
    refine seqK rfl (does_store (n := 2) (vs := [.int .i64 vt46.Hi, .int .u64 vt46.Lo]) (cs' := #[.int .i64 vt46.Hi, .int .u64 vt46.Lo]) rfl (by kernel_rfl) (by kernel_rfl : _ = Value.pointer (some ⟨b5, 0, none⟩)) (by kernel_rfl : _ = Value.agg #[.int .i64 vt46.Hi, .int .u64 vt46.Lo]) rfl rfl (by intro u_ hu_; simp only [List.mem_cons, List.not_mem_nil, or_false] at hu_; rcases hu_ with rfl | rfl <;> rfl) HS52 (Nat.le_of_ble_eq_true rfl) (by kernel_rfl) ?_)
    intro W53 HS54
    refine wpList_nil ?_
    refine hK45 _ _ ?_
    refine wp_ret ?_
    refine hret _ _ ?_
    refine ends (v := Value.agg #[.int .i64 vt46.Hi, .int .u64 vt46.Lo]) (results1 (q1 := .cell 4 95) (by kernel_rfl) (resN (n := 2) (cs := [.int .i64 vt46.Hi, .int .u64 vt46.Lo]) (by kernel_rfl : _ = Value.pointer (some ⟨b5, 0, none⟩)) Try.underlying95 rfl (by kernel_rfl) rfl (HS54.cells 0 2 _ rfl))) (by kernel_rfl) ?_
    have HS60 := HS54.drop
    have HS61 := HS60.drop
    injection h with h
    subst h
    exact ⟨f48, rfl, (L14.trans (L20.trans (L27.trans L49))), HS61⟩
  · have c43 : ¬ (((decide (a1 < 0)) != (decide (b2 < 0))) = true) := c43
    refine wpRwI 24 (x := ((decide (a1 < 0)) != (decide (b2 < 0)))) (v := false) (by kernel_rfl) (Bool.eq_false_iff.mpr c43) ?_
    refine condF (by kernel_rfl) ?_
    refine wp_skip ?_
    refine hK39 _ _ ?_
    refine wp_seq_k (fun K55 hK56 => ?_)
    refine wp_region_lit ?_
    refine seqK rfl (does_run (run_loadN (n := 2) rfl Try.underlying95 rfl (by kernel_rfl) (by kernel_rfl : _ = Value.pointer (some ⟨b32, 0, none⟩)) (cs := [.int .i64 (w64 (vt23)), .int .u64 vt24]) rfl (HS37.cells 0 2 _ rfl)) ?_)
    have HS57 := HS37.u1
    refine seqK rfl (does_store (n := 2) (vs := [.int .i64 (w64 (vt23)), .int .u64 vt24]) (cs' := #[.int .i64 (w64 (vt23)), .int .u64 vt24]) rfl (by kernel_rfl) (by kernel_rfl : _ = Value.pointer (some ⟨b5, 0, none⟩)) (by kernel_rfl : _ = Value.agg #[.int .i64 (w64 (vt23)), .int .u64 vt24]) rfl rfl (by intro u_ hu_; simp only [List.mem_cons, List.not_mem_nil, or_false] at hu_; rcases hu_ with rfl | rfl <;> rfl) HS57 (Nat.le_of_ble_eq_true rfl) (by kernel_rfl) ?_)
    intro W58 HS59
    refine wpList_nil ?_
    refine hK56 _ _ ?_
    refine wp_ret ?_
    refine hret _ _ ?_
    refine ends (v := Value.agg #[.int .i64 (w64 (vt23)), .int .u64 vt24]) (results1 (q1 := .cell 4 95) (by kernel_rfl) (resN (n := 2) (cs := [.int .i64 (w64 (vt23)), .int .u64 vt24]) (by kernel_rfl : _ = Value.pointer (some ⟨b5, 0, none⟩)) Try.underlying95 rfl (by kernel_rfl) rfl (HS59.cells 0 2 _ rfl))) (by kernel_rfl) ?_
    have HS62 := HS59.drop
    have HS63 := HS62.drop
    injection h with h
    subst h
    exact ⟨f26, rfl, (L14.trans (L20.trans L27)), HS63⟩

end Go.Sp.Z5
