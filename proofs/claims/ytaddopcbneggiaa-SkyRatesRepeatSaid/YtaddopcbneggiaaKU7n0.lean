import Derived.Test.YtaddopcbneggiaaProg
import Derived.Test.YtaddopcbneggiaaSpCopy
import Derived.Test.YtaddopcbneggiaaFU7
import Derived.Test.YtaddopcbneggiaaSpMap
namespace Go.Sp.U7
open Go Go.Sp Go.Proofs
set_option linter.unusedVariables false
attribute [local irreducible] wpList AnyL Code.wp Calls Does
def ty_Stream : Ty S_Stream where
  sz := 2
  rep := fun f cs x => ∃ (A0 : Option Addr) (c0 : Nat), cs = [.slice A0 x.L.length c0, .int .i64 x.vat] ∧ SlR (tInt .i64) f A0 c0 x.L
  pos := by decide
  len := by rintro f cs x ⟨A0, c0, rfl, h0⟩; rfl
  mono := by rintro f g cs x hl ⟨A0, c0, rfl, h0⟩; exact ⟨A0, c0, rfl, h0.mono hl⟩
  one := by
    rintro f cs x ⟨A0, c0, rfl, h0⟩ v hv
    simp only [List.mem_cons, List.not_mem_nil, or_false] at hv
    rcases hv with rfl | rfl <;> rfl
def ty_Vec : Ty S_Vec where
  sz := 3
  rep := fun f cs x => cs = [.int .i64 x.X, .int .i64 x.Y, .int .i64 x.Z]
  pos := by decide
  len := by rintro f cs x rfl; rfl
  mono := by rintro f g cs x hl rfl; exact rfl
  one := by
    rintro f cs x rfl v hv
    simp only [List.mem_cons, List.not_mem_nil, or_false] at hv
    rcases hv with rfl | rfl | rfl <;> rfl
def ty_Star : Ty S_Star where
  sz := 9
  rep := fun f cs x => ∃ (A5 : Option Addr) (c5 : Nat), cs = [.int .i64 x.ID, .int .i64 x.At.X, .int .i64 x.At.Y, .int .i64 x.At.Z, .int .i64 x.Rate, .slice A5 x.Wave.length c5, .int .i64 x.Period, .int .i64 x.From, .int .i64 x.To] ∧ SlR (tInt .i64) f A5 c5 x.Wave
  pos := by decide
  len := by rintro f cs x ⟨A5, c5, rfl, h5⟩; rfl
  mono := by rintro f g cs x hl ⟨A5, c5, rfl, h5⟩; exact ⟨A5, c5, rfl, h5.mono hl⟩
  one := by
    rintro f cs x ⟨A5, c5, rfl, h5⟩ v hv
    simp only [List.mem_cons, List.not_mem_nil, or_false] at hv
    rcases hv with rfl | rfl | rfl | rfl | rfl | rfl | rfl | rfl | rfl <;> rfl
def ty_Galaxy : Ty S_Galaxy where
  sz := 7
  rep := fun f cs x => cs = [.int .i64 x.ID, .int .i64 x.At.X, .int .i64 x.At.Y, .int .i64 x.At.Z, .int .i64 x.Rate, .int .i64 x.Wide, .int .i64 x.High]
  pos := by decide
  len := by rintro f cs x rfl; rfl
  mono := by rintro f g cs x hl rfl; exact rfl
  one := by
    rintro f cs x rfl v hv
    simp only [List.mem_cons, List.not_mem_nil, or_false] at hv
    rcases hv with rfl | rfl | rfl | rfl | rfl | rfl | rfl <;> rfl
def ty_Body : Ty S_Body where
  sz := 8
  rep := fun f cs x => cs = [.int .i64 x.ID, .int .i64 x.Was.X, .int .i64 x.Was.Y, .int .i64 x.Was.Z, .int .i64 x.Here.X, .int .i64 x.Here.Y, .int .i64 x.Here.Z, .int .i64 x.Rate]
  pos := by decide
  len := by rintro f cs x rfl; rfl
  mono := by rintro f g cs x hl rfl; exact rfl
  one := by
    rintro f cs x rfl v hv
    simp only [List.mem_cons, List.not_mem_nil, or_false] at hv
    rcases hv with rfl | rfl | rfl | rfl | rfl | rfl | rfl | rfl <;> rfl
def ty_Sky : Ty S_Sky where
  sz := 12
  rep := fun f cs x => ∃ (A1 : Option Addr) (c1 : Nat) (A2 : Option Addr) (c2 : Nat) (A3 : Option Addr) (c3 : Nat), cs = [.int .i64 x.Back, .slice A1 x.Stars.length c1, .slice A2 x.Galaxies.length c2, .slice A3 x.Bodies.length c3, .int .i64 x.Home.ID, .int .i64 x.Home.Was.X, .int .i64 x.Home.Was.Y, .int .i64 x.Home.Was.Z, .int .i64 x.Home.Here.X, .int .i64 x.Home.Here.Y, .int .i64 x.Home.Here.Z, .int .i64 x.Home.Rate] ∧ SlR ty_Star f A1 c1 x.Stars ∧ SlR ty_Galaxy f A2 c2 x.Galaxies ∧ SlR ty_Body f A3 c3 x.Bodies
  pos := by decide
  len := by rintro f cs x ⟨A1, c1, A2, c2, A3, c3, rfl, h1, h2, h3⟩; rfl
  mono := by rintro f g cs x hl ⟨A1, c1, A2, c2, A3, c3, rfl, h1, h2, h3⟩; exact ⟨A1, c1, A2, c2, A3, c3, rfl, h1.mono hl, h2.mono hl, h3.mono hl⟩
  one := by
    rintro f cs x ⟨A1, c1, A2, c2, A3, c3, rfl, h1, h2, h3⟩ v hv
    simp only [List.mem_cons, List.not_mem_nil, or_false] at hv
    rcases hv with rfl | rfl | rfl | rfl | rfl | rfl | rfl | rfl | rfl | rfl | rfl | rfl <;> rfl
def ty_Wide : Ty S_Wide where
  sz := 2
  rep := fun f cs x => cs = [.int .i64 x.Hi, .int .u64 x.Lo]
  pos := by decide
  len := by rintro f cs x rfl; rfl
  mono := by rintro f g cs x hl rfl; exact rfl
  one := by
    rintro f cs x rfl v hv
    simp only [List.mem_cons, List.not_mem_nil, or_false] at hv
    rcases hv with rfl | rfl <;> rfl
theorem inf34 : Inf Try.prog 34 1 8 (.int .i64 0) := .mk' (by kernel_rfl) rfl

set_option maxRecDepth 100000 in
set_option maxHeartbeats 4000000 in
theorem spymake_Below.calls (k : Nat)  (x1 : Int) (n2 : Int) {t w : World} {f : FM} {H : List Seg} (HS : St t w f (H)) (r1 : Int) (h : spymake_Below k x1 n2 = some r1) :
    Calls Try.prog 15 #[.int .i64 x1, .int .i64 n2] w (fun e w' => ∃ (g : FM), e = .returned (Value.int .i64 r1) ∧ FM.le f g ∧ St t w' g (H)) := by
  unfold spymake_Below at h
  refine enter Try.func15 rfl (tm := #[iV x1, iV n2, uV, uV, uV, uV, uV, uV, uV, uV, uV, uV, uV, uV, uV, uV]) (by kernel_rfl) ?_
  intro B hret hnor hnp
  refine wp_seq_k (fun K3 hK4 => ?_)
  refine wp_region_lit ?_
  refine seqS1 (a' := ⟨#[iV x1, iV n2, uV, uV, iV 0, uV, uV, uV, uV, uV, uV, uV, uV, uV, uV, uV], []⟩) (by kernel_rfl) ?_
  refine wpList_nil ?_
  refine hK4 _ _ ?_
  refine wp_seq_k (fun K5 hK6 => ?_)
  refine wp_seq_k (fun K7 hK8 => ?_)
  refine wp_region_lit ?_
  refine seqS2 (a' := ⟨#[iV x1, iV n2, uV, uV, iV 0, iV n2, .bool (decide (n2 < 1)), uV, uV, uV, uV, uV, uV, uV, uV, uV], []⟩) (by kernel_rfl) ?_
  refine wpList_nil ?_
  refine hK8 _ _ ?_
  have hq_ := ite_some h; clear h; rcases hq_ with ⟨c10, h⟩ | ⟨c10, h⟩
  · have c10 : n2 < 1 := c10
    refine wpRwI 6 (x := (decide (n2 < 1))) (v := true) (by kernel_rfl) (decide_eq_true c10) ?_
    refine condT (by kernel_rfl) ?_
    refine wp_seq_k (fun K11 hK12 => ?_)
    refine wp_region_lit ?_
    refine seqS1 (a' := ⟨#[iV x1, iV n2, uV, uV, iV 0, iV n2, .bool true, uV, uV, uV, uV, uV, uV, uV, uV, uV], []⟩) (by kernel_rfl) ?_
    refine wpList_nil ?_
    refine hK12 _ _ ?_
    refine wp_ret ?_
    refine hret _ _ ?_
    refine ends_still (v := Value.int .i64 0) (by kernel_rfl) (by kernel_rfl) ?_
    injection h with h
    subst h
    exact ⟨f, rfl, FM.le.refl _, HS⟩
  · have c10 : ¬ (n2 < 1) := c10
    refine wpRwI 6 (x := (decide (n2 < 1))) (v := false) (by kernel_rfl) (decide_eq_false c10) ?_
    refine condF (by kernel_rfl) ?_
    refine wp_skip ?_
    refine hK6 _ _ ?_
    refine wp_seq_k (fun K13 hK14 => ?_)
    refine wp_region_lit ?_
    have hq_ := guard_some h; clear h; obtain ⟨c15, h⟩ := hq_
    have c15 : ¬ (n2 = 0) := c15
    refine seqL2 (by kernel_rfl) ?_
    refine seqK rfl (does_run (run_rem rfl (by kernel_rfl : _ = Value.int .i64 x1) (by kernel_rfl : _ = Value.int .i64 n2) c15 w) ?_)
    refine seqS1 (a' := ⟨#[iV (Int.tmod x1 n2), iV n2, uV, uV, iV 0, iV n2, .bool false, iV x1, iV n2, iV (Int.tmod x1 n2), uV, uV, uV, uV, uV, uV], []⟩) (by kernel_rfl) ?_
    refine wpList_nil ?_
    refine hK14 _ _ ?_
    refine wp_seq_k (fun K16 hK17 => ?_)
    refine wp_seq_k (fun K18 hK19 => ?_)
    refine wp_region_lit ?_
    refine seqS2 (a' := ⟨#[iV (Int.tmod x1 n2), iV n2, uV, uV, iV 0, iV n2, .bool false, iV x1, iV n2, iV (Int.tmod x1 n2), iV (Int.tmod x1 n2), .bool (decide ((Int.tmod x1 n2) < 0)), uV, uV, uV, uV], []⟩) (by kernel_rfl) ?_
    refine wpList_nil ?_
    refine hK19 _ _ ?_
    have hq_ := ite_some h; clear h; rcases hq_ with ⟨c21, h⟩ | ⟨c21, h⟩
    · have c21 : (Int.tmod x1 n2) < 0 := c21
      refine wpRwI 11 (x := (decide ((Int.tmod x1 n2) < 0))) (v := true) (by kernel_rfl) (decide_eq_true c21) ?_
      refine condT (by kernel_rfl) ?_
      refine wp_region_lit ?_
      refine seqS4 (a' := ⟨#[iV (w64 ((Int.tmod x1 n2) + n2)), iV n2, uV, uV, iV 0, iV n2, .bool false, iV x1, iV n2, iV (Int.tmod x1 n2), iV (Int.tmod x1 n2), .bool true, iV (Int.tmod x1 n2), iV n2, iV (w64 ((Int.tmod x1 n2) + n2)), uV], []⟩) (by kernel_rfl) ?_
      refine wpList_nil ?_
      refine hK17 _ _ ?_
      refine wp_seq_k (fun K22 hK23 => ?_)
      refine wp_region_lit ?_
      refine seqS2 (a' := ⟨#[iV (w64 ((Int.tmod x1 n2) + n2)), iV n2, uV, uV, iV (w64 ((Int.tmod x1 n2) + n2)), iV n2, .bool false, iV x1, iV n2, iV (Int.tmod x1 n2), iV (Int.tmod x1 n2), .bool true, iV (Int.tmod x1 n2), iV n2, iV (w64 ((Int.tmod x1 n2) + n2)), iV (w64 ((Int.tmod x1 n2) + n2))], []⟩) (by kernel_rfl) ?_
      refine wpList_nil ?_
      refine hK23 _ _ ?_
      refine wp_ret ?_
      refine hret _ _ ?_
      refine ends_still (v := Value.int .i64 (w64 ((Int.tmod x1 n2) + n2))) (by kernel_rfl) (by kernel_rfl) ?_
      injection h with h
      subst h
      exact ⟨f, rfl, FM.le.refl _, HS⟩
    · have c21 : ¬ ((Int.tmod x1 n2) < 0) := c21
      refine wpRwI 11 (x := (decide ((Int.tmod x1 n2) < 0))) (v := false) (by kernel_rfl) (decide_eq_false c21) ?_
      refine condF (by kernel_rfl) ?_
      refine wp_skip ?_
      refine hK17 _ _ ?_
      refine wp_seq_k (fun K24 hK25 => ?_)
      refine wp_region_lit ?_
      refine seqS2 (a' := ⟨#[iV (Int.tmod x1 n2), iV n2, uV, uV, iV (Int.tmod x1 n2), iV n2, .bool false, iV x1, iV n2, iV (Int.tmod x1 n2), iV (Int.tmod x1 n2), .bool false, uV, uV, uV, iV (Int.tmod x1 n2)], []⟩) (by kernel_rfl) ?_
      refine wpList_nil ?_
      refine hK25 _ _ ?_
      refine wp_ret ?_
      refine hret _ _ ?_
      refine ends_still (v := Value.int .i64 (Int.tmod x1 n2)) (by kernel_rfl) (by kernel_rfl) ?_
      injection h with h
      subst h
      exact ⟨f, rfl, FM.le.refl _, HS⟩

set_option maxRecDepth 100000 in
set_option maxHeartbeats 4000000 in
theorem spymake_Stream_Next.calls (k : Nat) (b1 : Nat) (A4 : Option Addr) (c5 : Nat) (s3 : S_Stream) (n7 : Int) {t w : World} {f : FM} {H : List Seg} (HS : St t w f ([(b1, .cells #[.slice A4 s3.L.length c5, .int .i64 s3.vat] 33 (0, 0))] :: H)) (HR6 : SlR (tInt .i64) f A4 c5 s3.L) (r1 : Int) (r2 : Int) (h : spymake_Stream_Next k s3 n7 = some (r1, r2)) :
    Calls Try.prog 30 #[.pointer (some ⟨b1, 0, none⟩), .int .i64 n7] w (fun e w' => ∃ (g : FM), e = .returned (Value.int .i64 r1) ∧ FM.le f g ∧ St t w' g ([(b1, .cells #[.slice A4 s3.L.length c5, .int .i64 r2] 33 (0, 0))] :: H)) := by
  unfold spymake_Stream_Next at h
  refine enter Try.func30 rfl (tm := #[.pointer (some ⟨b1, 0, none⟩), iV n7, uV, uV, uV, uV, uV, uV, uV, uV, uV, uV, uV, uV, uV, uV, uV, uV, uV, uV, uV, uV, uV, uV, uV, uV, uV, uV, uV, uV, uV, uV, uV, uV, uV, uV, uV, uV, uV, uV, uV, uV, uV, uV, uV, uV, uV, uV, uV, uV, uV, uV, uV, uV, uV, uV, uV, uV, uV, uV, uV, uV, uV, uV]) (by kernel_rfl) ?_
  intro B hret hnor hnp
  refine wp_seq_k (fun K8 hK9 => ?_)
  refine wp_region_lit ?_
  refine seqS1 (a' := ⟨#[.pointer (some ⟨b1, 0, none⟩), iV n7, uV, uV, iV 0, uV, uV, uV, uV, uV, uV, uV, uV, uV, uV, uV, uV, uV, uV, uV, uV, uV, uV, uV, uV, uV, uV, uV, uV, uV, uV, uV, uV, uV, uV, uV, uV, uV, uV, uV, uV, uV, uV, uV, uV, uV, uV, uV, uV, uV, uV, uV, uV, uV, uV, uV, uV, uV, uV, uV, uV, uV, uV, uV], []⟩) (by kernel_rfl) ?_
  refine wpList_nil ?_
  refine hK9 _ _ ?_
  refine wp_seq_k (fun K10 hK11 => ?_)
  refine wp_region_lit ?_
  refine seqL3 (by kernel_rfl) ?_
  refine seqK rfl (does_run (run_load rfl Try.underlying3 rfl (by kernel_rfl : _ = Value.pointer (some ⟨b1, 1, none⟩)) (HS.cell 1)) ?_)
  refine seqL3 (by kernel_rfl) ?_
  refine seqK rfl (does_store (n := 1) (vs := [.int .i64 (w64 (s3.vat + 1))]) (cs' := #[.slice A4 s3.L.length c5, .int .i64 (w64 (s3.vat + 1))]) rfl (by kernel_rfl) (by kernel_rfl : _ = Value.pointer (some ⟨b1, 1, none⟩)) (by kernel_rfl : _ = Value.int .i64 (w64 (s3.vat + 1))) rfl rfl (by intro u_ hu_; simp only [List.mem_cons, List.not_mem_nil, or_false] at hu_; subst hu_; rfl) HS (Nat.le_of_ble_eq_true rfl) (by kernel_rfl) ?_)
  intro W12 HS13
  refine wpList_nil ?_
  refine hK11 _ _ ?_
  refine wp_seq_k (fun K14 hK15 => ?_)
  refine wp_seq_k (fun K16 hK17 => ?_)
  refine wp_region_lit ?_
  refine seqL3 (by kernel_rfl) ?_
  refine seqK rfl (does_run (run_load rfl Try.underlying30 rfl (by kernel_rfl : _ = Value.pointer (some ⟨b1, 0, none⟩)) (HS13.cell 0)) ?_)
  refine seqS2 (a' := ⟨#[.pointer (some ⟨b1, 0, none⟩), iV n7, uV, uV, iV 0, uV, uV, .pointer (some ⟨b1, 0, none⟩), .pointer (some ⟨b1, 0, none⟩), .pointer (some ⟨b1, 1, none⟩), iV s3.vat, iV (w64 (s3.vat + 1)), .pointer (some ⟨b1, 0, none⟩), .pointer (some ⟨b1, 1, none⟩), .pointer (some ⟨b1, 0, none⟩), .pointer (some ⟨b1, 0, none⟩), .pointer (some ⟨b1, 0, none⟩), .slice A4 s3.L.length c5, iV (s3.L.length : Int), .bool ((s3.L.length : Int) == 0), uV, uV, uV, uV, uV, uV, uV, uV, uV, uV, uV, uV, uV, uV, uV, uV, uV, uV, uV, uV, uV, uV, uV, uV, uV, uV, uV, uV, uV, uV, uV, uV, uV, uV, uV, uV, uV, uV, uV, uV, uV, uV, uV, uV], []⟩) (by kernel_rfl) ?_
  refine wpList_nil ?_
  refine hK17 _ _ ?_
  have hq_ := ite_some h; clear h; rcases hq_ with ⟨c19, h⟩ | ⟨c19, h⟩
  · have c19 : (s3.L.length : Int) = 0 := c19
    refine wpRwI 19 (x := ((s3.L.length : Int) == 0)) (v := true) (by kernel_rfl) (beq_iff_eq.mpr c19) ?_
    refine condT (by kernel_rfl) ?_
    refine wp_seq_k (fun K20 hK21 => ?_)
    refine wp_region_lit ?_
    refine seqL3 (by kernel_rfl) ?_
    refine seqK rfl (does_run (run_load rfl Try.underlying3 rfl (by kernel_rfl : _ = Value.pointer (some ⟨b1, 1, none⟩)) (HS13.cell 1)) ?_)
    have hq_ := bind_some h; clear h; obtain ⟨vt22, hc23, h⟩ := hq_
    refine seqL2 (by kernel_rfl) ?_
    refine seqK rfl (does_call (f := 15) (args := #[.int .i64 (w64 ((w64 (s3.vat + 1)) * 7919)), .int .i64 n7]) (by kernel_rfl) (spymake_Below.calls k (w64 ((w64 (s3.vat + 1)) * 7919)) n7 HS13 vt22 hc23) ?_)
    rintro _ W26 ⟨f24, rfl, L25, HS27⟩
    refine ⟨_, rfl, ?_⟩
    refine seqS1 (a' := ⟨#[.pointer (some ⟨b1, 0, none⟩), iV n7, uV, uV, iV vt22, uV, uV, .pointer (some ⟨b1, 0, none⟩), .pointer (some ⟨b1, 0, none⟩), .pointer (some ⟨b1, 1, none⟩), iV s3.vat, iV (w64 (s3.vat + 1)), .pointer (some ⟨b1, 0, none⟩), .pointer (some ⟨b1, 1, none⟩), .pointer (some ⟨b1, 0, none⟩), .pointer (some ⟨b1, 0, none⟩), .pointer (some ⟨b1, 0, none⟩), .slice A4 s3.L.length c5, iV (s3.L.length : Int), .bool true, .pointer (some ⟨b1, 0, none⟩), .pointer (some ⟨b1, 0, none⟩), .pointer (some ⟨b1, 1, none⟩), iV (w64 (s3.vat + 1)), iV (w64 ((w64 (s3.vat + 1)) * 7919)), iV n7, iV vt22, uV, uV, uV, uV, uV, uV, uV, uV, uV, uV, uV, uV, uV, uV, uV, uV, uV, uV, uV, uV, uV, uV, uV, uV, uV, uV, uV, uV, uV, uV, uV, uV, uV, uV, uV, uV, uV], []⟩) (by kernel_rfl) ?_
    refine wpList_nil ?_
    refine hK21 _ _ ?_
    refine wp_ret ?_
    refine hret _ _ ?_
    refine ends_still (v := Value.int .i64 vt22) (by kernel_rfl) (by kernel_rfl) ?_
    injection h with h
    injection h with h0_ h
    subst h0_ h
    exact ⟨f24, rfl, L25, HS27⟩
  · have c19 : ¬ ((s3.L.length : Int) = 0) := c19
    refine wpRwI 19 (x := ((s3.L.length : Int) == 0)) (v := false) (by kernel_rfl) (beq_eq_false_iff_ne.mpr c19) ?_
    refine condF (by kernel_rfl) ?_
    refine wp_skip ?_
    refine hK15 _ _ ?_
    refine wp_seq_k (fun K28 hK29 => ?_)
    refine heldG (S := Sg t f ([(b1, .cells #[.slice A4 s3.L.length c5, .int .i64 (w64 (s3.vat + 1))] 33 (0, 0))] :: H) []) (n := 12) (by kernel_rfl) rfl HS13 ?_
    intro W30 HS31
    refine takeG [0, 1, 2] (n := 12) (fuel := 9) (l' := #[true, true, true, false, false, false, false, false, false, false, false, false]) (a' := ⟨#[.pointer (some ⟨b1, 0, none⟩), iV n7, uV, uV, iV 0, uV, uV, .pointer (some ⟨b1, 0, none⟩), .pointer (some ⟨b1, 0, none⟩), .pointer (some ⟨b1, 1, none⟩), iV s3.vat, iV (w64 (s3.vat + 1)), .pointer (some ⟨b1, 0, none⟩), .pointer (some ⟨b1, 1, none⟩), .pointer (some ⟨b1, 0, none⟩), .pointer (some ⟨b1, 0, none⟩), .pointer (some ⟨b1, 0, none⟩), .slice A4 s3.L.length c5, iV (s3.L.length : Int), .bool false, uV, uV, uV, uV, uV, uV, uV, .pointer (some ⟨b1, 0, none⟩), .pointer (some ⟨b1, 0, none⟩), .pointer (some ⟨b1, 1, none⟩), uV, uV, uV, uV, uV, uV, uV, uV, uV, uV, uV, uV, uV, uV, uV, uV, uV, uV, uV, uV, uV, uV, uV, uV, uV, uV, uV, uV, uV, uV, uV, uV, uV, uV], []⟩) rfl (by kernel_rfl) (by kernel_rfl) (by kernel_rfl) hnp (Sg.g0 (Sx.of [] (FM.le.refl _) HS31)) ?_
    refine takeGQ 3 [] rfl (by kernel_rfl) (by kernel_rfl) (by kernel_rfl) (by kernel_rfl) (by kernel_rfl) (by kernel_rfl) hnp (Sg.g0 (Sx.of [] (FM.le.refl _) HS31)) (fun w_ hw_ => by obtain ⟨g_, hl_, hS_⟩ := hw_.st; exact run_load rfl Try.underlying3 rfl (by kernel_rfl : _ = Value.pointer (some ⟨b1, 1, none⟩)) (hS_.cell 1)) ?_
    refine takeG [4, 5, 6, 7] (n := 8) (fuel := 4) (l' := #[true, true, true, true, true, true, true, true, false, false, false, false]) (a' := ⟨#[.pointer (some ⟨b1, 0, none⟩), iV n7, uV, uV, iV 0, uV, uV, .pointer (some ⟨b1, 0, none⟩), .pointer (some ⟨b1, 0, none⟩), .pointer (some ⟨b1, 1, none⟩), iV s3.vat, iV (w64 (s3.vat + 1)), .pointer (some ⟨b1, 0, none⟩), .pointer (some ⟨b1, 1, none⟩), .pointer (some ⟨b1, 0, none⟩), .pointer (some ⟨b1, 0, none⟩), .pointer (some ⟨b1, 0, none⟩), .slice A4 s3.L.length c5, iV (s3.L.length : Int), .bool false, uV, uV, uV, uV, uV, uV, uV, .pointer (some ⟨b1, 0, none⟩), .pointer (some ⟨b1, 0, none⟩), .pointer (some ⟨b1, 1, none⟩), iV (w64 (s3.vat + 1)), iV (w64 ((w64 (s3.vat + 1)) - 1)), .pointer (some ⟨b1, 0, none⟩), .pointer (some ⟨b1, 0, none⟩), .pointer (some ⟨b1, 0, none⟩), uV, uV, uV, uV, uV, uV, uV, uV, uV, uV, uV, uV, uV, uV, uV, uV, uV, uV, uV, uV, uV, uV, uV, uV, uV, uV, uV, uV, uV], []⟩) rfl (by kernel_rfl) (by kernel_rfl) (by kernel_rfl) hnp (Sg.g0 (Sx.of [] (FM.le.refl _) HS31)) ?_
    refine takeGQ 8 [] rfl (by kernel_rfl) (by kernel_rfl) (by kernel_rfl) (by kernel_rfl) (by kernel_rfl) (by kernel_rfl) hnp (Sg.g0 (Sx.of [] (FM.le.refl _) HS31)) (fun w_ hw_ => by obtain ⟨g_, hl_, hS_⟩ := hw_.st; exact run_load rfl Try.underlying30 rfl (by kernel_rfl : _ = Value.pointer (some ⟨b1, 0, none⟩)) (hS_.cell 0)) ?_
    have hq_ := guard_some h; clear h; obtain ⟨c32, h⟩ := hq_
    have c32 : ¬ ((s3.L.length : Int) = 0) := c32
    refine takeG [9] (n := 3) (fuel := 2) (l' := #[true, true, true, true, true, true, true, true, true, true, false, false]) (a' := ⟨#[.pointer (some ⟨b1, 0, none⟩), iV n7, uV, uV, iV 0, uV, uV, .pointer (some ⟨b1, 0, none⟩), .pointer (some ⟨b1, 0, none⟩), .pointer (some ⟨b1, 1, none⟩), iV s3.vat, iV (w64 (s3.vat + 1)), .pointer (some ⟨b1, 0, none⟩), .pointer (some ⟨b1, 1, none⟩), .pointer (some ⟨b1, 0, none⟩), .pointer (some ⟨b1, 0, none⟩), .pointer (some ⟨b1, 0, none⟩), .slice A4 s3.L.length c5, iV (s3.L.length : Int), .bool false, uV, uV, uV, uV, uV, uV, uV, .pointer (some ⟨b1, 0, none⟩), .pointer (some ⟨b1, 0, none⟩), .pointer (some ⟨b1, 1, none⟩), iV (w64 (s3.vat + 1)), iV (w64 ((w64 (s3.vat + 1)) - 1)), .pointer (some ⟨b1, 0, none⟩), .pointer (some ⟨b1, 0, none⟩), .pointer (some ⟨b1, 0, none⟩), .slice A4 s3.L.length c5, iV (s3.L.length : Int), uV, uV, uV, uV, uV, uV, uV, uV, uV, uV, uV, uV, uV, uV, uV, uV, uV, uV, uV, uV, uV, uV, uV, uV, uV, uV, uV], []⟩) rfl (by kernel_rfl) (by kernel_rfl) (by kernel_rfl) hnp (Sg.g0 (Sx.of [] (FM.le.refl _) HS31)) ?_
    refine takeGQ 10 [] rfl (by kernel_rfl) (by kernel_rfl) (by kernel_rfl) (by kernel_rfl) (by kernel_rfl) (by kernel_rfl) hnp (Sg.g0 (Sx.of [] (FM.le.refl _) HS31)) (fun w_ hw_ => by obtain ⟨g_, hl_, hS_⟩ := hw_.st; exact run_rem rfl (by kernel_rfl : _ = Value.int .i64 (w64 ((w64 (s3.vat + 1)) - 1))) (by kernel_rfl : _ = Value.int .i64 (s3.L.length : Int)) c32 w_) ?_
    refine takeG [11] (n := 1) (fuel := 0) (l' := #[true, true, true, true, true, true, true, true, true, true, true, true]) (a' := ⟨#[.pointer (some ⟨b1, 0, none⟩), iV n7, uV, uV, iV 0, iV (Int.tmod (w64 ((w64 (s3.vat + 1)) - 1)) (s3.L.length : Int)), uV, .pointer (some ⟨b1, 0, none⟩), .pointer (some ⟨b1, 0, none⟩), .pointer (some ⟨b1, 1, none⟩), iV s3.vat, iV (w64 (s3.vat + 1)), .pointer (some ⟨b1, 0, none⟩), .pointer (some ⟨b1, 1, none⟩), .pointer (some ⟨b1, 0, none⟩), .pointer (some ⟨b1, 0, none⟩), .pointer (some ⟨b1, 0, none⟩), .slice A4 s3.L.length c5, iV (s3.L.length : Int), .bool false, uV, uV, uV, uV, uV, uV, uV, .pointer (some ⟨b1, 0, none⟩), .pointer (some ⟨b1, 0, none⟩), .pointer (some ⟨b1, 1, none⟩), iV (w64 (s3.vat + 1)), iV (w64 ((w64 (s3.vat + 1)) - 1)), .pointer (some ⟨b1, 0, none⟩), .pointer (some ⟨b1, 0, none⟩), .pointer (some ⟨b1, 0, none⟩), .slice A4 s3.L.length c5, iV (s3.L.length : Int), iV (Int.tmod (w64 ((w64 (s3.vat + 1)) - 1)) (s3.L.length : Int)), uV, uV, uV, uV, uV, uV, uV, uV, uV, uV, uV, uV, uV, uV, uV, uV, uV, uV, uV, uV, uV, uV, uV, uV, uV, uV], []⟩) rfl (by kernel_rfl) (by kernel_rfl) (by kernel_rfl) hnp (Sg.g0 (Sx.of [] (FM.le.refl _) HS31)) ?_
    refine doneG (by kernel_rfl) ?_ _
    refine hK29 _ _ ?_
    refine wp_seq_k (fun K33 hK34 => ?_)
    refine heldG (S := Sg t f ([(b1, .cells #[.slice A4 s3.L.length c5, .int .i64 (w64 (s3.vat + 1))] 33 (0, 0))] :: H) []) (n := 12) (by kernel_rfl) rfl HS31 ?_
    intro W35 HS36
    refine takeG [0, 1, 2] (n := 12) (fuel := 9) (l' := #[true, true, true, false, false, false, false, false, false, false, false, false]) (a' := ⟨#[.pointer (some ⟨b1, 0, none⟩), iV n7, uV, uV, iV 0, iV (Int.tmod (w64 ((w64 (s3.vat + 1)) - 1)) (s3.L.length : Int)), uV, .pointer (some ⟨b1, 0, none⟩), .pointer (some ⟨b1, 0, none⟩), .pointer (some ⟨b1, 1, none⟩), iV s3.vat, iV (w64 (s3.vat + 1)), .pointer (some ⟨b1, 0, none⟩), .pointer (some ⟨b1, 1, none⟩), .pointer (some ⟨b1, 0, none⟩), .pointer (some ⟨b1, 0, none⟩), .pointer (some ⟨b1, 0, none⟩), .slice A4 s3.L.length c5, iV (s3.L.length : Int), .bool false, uV, uV, uV, uV, uV, uV, uV, .pointer (some ⟨b1, 0, none⟩), .pointer (some ⟨b1, 0, none⟩), .pointer (some ⟨b1, 1, none⟩), iV (w64 (s3.vat + 1)), iV (w64 ((w64 (s3.vat + 1)) - 1)), .pointer (some ⟨b1, 0, none⟩), .pointer (some ⟨b1, 0, none⟩), .pointer (some ⟨b1, 0, none⟩), .slice A4 s3.L.length c5, iV (s3.L.length : Int), iV (Int.tmod (w64 ((w64 (s3.vat + 1)) - 1)) (s3.L.length : Int)), .pointer (some ⟨b1, 0, none⟩), .pointer (some ⟨b1, 0, none⟩), .pointer (some ⟨b1, 1, none⟩), uV, uV, uV, uV, uV, uV, uV, uV, uV, uV, uV, uV, uV, uV, uV, uV, uV, uV, uV, uV, uV, uV, uV], []⟩) rfl (by kernel_rfl) (by kernel_rfl) (by kernel_rfl) hnp (Sg.g0 (Sx.of [] (FM.le.refl _) HS36)) ?_
    refine takeGQ 3 [] rfl (by kernel_rfl) (by kernel_rfl) (by kernel_rfl) (by kernel_rfl) (by kernel_rfl) (by kernel_rfl) hnp (Sg.g0 (Sx.of [] (FM.le.refl _) HS36)) (fun w_ hw_ => by obtain ⟨g_, hl_, hS_⟩ := hw_.st; exact run_load rfl Try.underlying3 rfl (by kernel_rfl : _ = Value.pointer (some ⟨b1, 1, none⟩)) (hS_.cell 1)) ?_
    refine takeG [4, 5, 6, 7] (n := 8) (fuel := 4) (l' := #[true, true, true, true, true, true, true, true, false, false, false, false]) (a' := ⟨#[.pointer (some ⟨b1, 0, none⟩), iV n7, uV, uV, iV 0, iV (Int.tmod (w64 ((w64 (s3.vat + 1)) - 1)) (s3.L.length : Int)), uV, .pointer (some ⟨b1, 0, none⟩), .pointer (some ⟨b1, 0, none⟩), .pointer (some ⟨b1, 1, none⟩), iV s3.vat, iV (w64 (s3.vat + 1)), .pointer (some ⟨b1, 0, none⟩), .pointer (some ⟨b1, 1, none⟩), .pointer (some ⟨b1, 0, none⟩), .pointer (some ⟨b1, 0, none⟩), .pointer (some ⟨b1, 0, none⟩), .slice A4 s3.L.length c5, iV (s3.L.length : Int), .bool false, uV, uV, uV, uV, uV, uV, uV, .pointer (some ⟨b1, 0, none⟩), .pointer (some ⟨b1, 0, none⟩), .pointer (some ⟨b1, 1, none⟩), iV (w64 (s3.vat + 1)), iV (w64 ((w64 (s3.vat + 1)) - 1)), .pointer (some ⟨b1, 0, none⟩), .pointer (some ⟨b1, 0, none⟩), .pointer (some ⟨b1, 0, none⟩), .slice A4 s3.L.length c5, iV (s3.L.length : Int), iV (Int.tmod (w64 ((w64 (s3.vat + 1)) - 1)) (s3.L.length : Int)), .pointer (some ⟨b1, 0, none⟩), .pointer (some ⟨b1, 0, none⟩), .pointer (some ⟨b1, 1, none⟩), iV (w64 (s3.vat + 1)), iV (w64 ((w64 (s3.vat + 1)) - 1)), .pointer (some ⟨b1, 0, none⟩), .pointer (some ⟨b1, 0, none⟩), .pointer (some ⟨b1, 0, none⟩), uV, uV, uV, uV, uV, uV, uV, uV, uV, uV, uV, uV, uV, uV, uV, uV, uV, uV], []⟩) rfl (by kernel_rfl) (by kernel_rfl) (by kernel_rfl) hnp (Sg.g0 (Sx.of [] (FM.le.refl _) HS36)) ?_
    refine takeGQ 8 [] rfl (by kernel_rfl) (by kernel_rfl) (by kernel_rfl) (by kernel_rfl) (by kernel_rfl) (by kernel_rfl) hnp (Sg.g0 (Sx.of [] (FM.le.refl _) HS36)) (fun w_ hw_ => by obtain ⟨g_, hl_, hS_⟩ := hw_.st; exact run_load rfl Try.underlying30 rfl (by kernel_rfl : _ = Value.pointer (some ⟨b1, 0, none⟩)) (hS_.cell 0)) ?_
    refine takeG [9] (n := 3) (fuel := 2) (l' := #[true, true, true, true, true, true, true, true, true, true, false, false]) (a' := ⟨#[.pointer (some ⟨b1, 0, none⟩), iV n7, uV, uV, iV 0, iV (Int.tmod (w64 ((w64 (s3.vat + 1)) - 1)) (s3.L.length : Int)), uV, .pointer (some ⟨b1, 0, none⟩), .pointer (some ⟨b1, 0, none⟩), .pointer (some ⟨b1, 1, none⟩), iV s3.vat, iV (w64 (s3.vat + 1)), .pointer (some ⟨b1, 0, none⟩), .pointer (some ⟨b1, 1, none⟩), .pointer (some ⟨b1, 0, none⟩), .pointer (some ⟨b1, 0, none⟩), .pointer (some ⟨b1, 0, none⟩), .slice A4 s3.L.length c5, iV (s3.L.length : Int), .bool false, uV, uV, uV, uV, uV, uV, uV, .pointer (some ⟨b1, 0, none⟩), .pointer (some ⟨b1, 0, none⟩), .pointer (some ⟨b1, 1, none⟩), iV (w64 (s3.vat + 1)), iV (w64 ((w64 (s3.vat + 1)) - 1)), .pointer (some ⟨b1, 0, none⟩), .pointer (some ⟨b1, 0, none⟩), .pointer (some ⟨b1, 0, none⟩), .slice A4 s3.L.length c5, iV (s3.L.length : Int), iV (Int.tmod (w64 ((w64 (s3.vat + 1)) - 1)) (s3.L.length : Int)), .pointer (some ⟨b1, 0, none⟩), .pointer (some ⟨b1, 0, none⟩), .pointer (some ⟨b1, 1, none⟩), iV (w64 (s3.vat + 1)), iV (w64 ((w64 (s3.vat + 1)) - 1)), .pointer (some ⟨b1, 0, none⟩), .pointer (some ⟨b1, 0, none⟩), .pointer (some ⟨b1, 0, none⟩), .slice A4 s3.L.length c5, iV (s3.L.length : Int), uV, uV, uV, uV, uV, uV, uV, uV, uV, uV, uV, uV, uV, uV, uV, uV], []⟩) rfl (by kernel_rfl) (by kernel_rfl) (by kernel_rfl) hnp (Sg.g0 (Sx.of [] (FM.le.refl _) HS36)) ?_
    refine takeGQ 10 [] rfl (by kernel_rfl) (by kernel_rfl) (by kernel_rfl) (by kernel_rfl) (by kernel_rfl) (by kernel_rfl) hnp (Sg.g0 (Sx.of [] (FM.le.refl _) HS36)) (fun w_ hw_ => by obtain ⟨g_, hl_, hS_⟩ := hw_.st; exact run_div rfl (by kernel_rfl : _ = Value.int .i64 (w64 ((w64 (s3.vat + 1)) - 1))) (by kernel_rfl : _ = Value.int .i64 (s3.L.length : Int)) c32 w_) ?_
    refine takeG [11] (n := 1) (fuel := 0) (l' := #[true, true, true, true, true, true, true, true, true, true, true, true]) (a' := ⟨#[.pointer (some ⟨b1, 0, none⟩), iV n7, uV, uV, iV 0, iV (Int.tmod (w64 ((w64 (s3.vat + 1)) - 1)) (s3.L.length : Int)), iV (w64 (Int.tdiv (w64 ((w64 (s3.vat + 1)) - 1)) (s3.L.length : Int))), .pointer (some ⟨b1, 0, none⟩), .pointer (some ⟨b1, 0, none⟩), .pointer (some ⟨b1, 1, none⟩), iV s3.vat, iV (w64 (s3.vat + 1)), .pointer (some ⟨b1, 0, none⟩), .pointer (some ⟨b1, 1, none⟩), .pointer (some ⟨b1, 0, none⟩), .pointer (some ⟨b1, 0, none⟩), .pointer (some ⟨b1, 0, none⟩), .slice A4 s3.L.length c5, iV (s3.L.length : Int), .bool false, uV, uV, uV, uV, uV, uV, uV, .pointer (some ⟨b1, 0, none⟩), .pointer (some ⟨b1, 0, none⟩), .pointer (some ⟨b1, 1, none⟩), iV (w64 (s3.vat + 1)), iV (w64 ((w64 (s3.vat + 1)) - 1)), .pointer (some ⟨b1, 0, none⟩), .pointer (some ⟨b1, 0, none⟩), .pointer (some ⟨b1, 0, none⟩), .slice A4 s3.L.length c5, iV (s3.L.length : Int), iV (Int.tmod (w64 ((w64 (s3.vat + 1)) - 1)) (s3.L.length : Int)), .pointer (some ⟨b1, 0, none⟩), .pointer (some ⟨b1, 0, none⟩), .pointer (some ⟨b1, 1, none⟩), iV (w64 (s3.vat + 1)), iV (w64 ((w64 (s3.vat + 1)) - 1)), .pointer (some ⟨b1, 0, none⟩), .pointer (some ⟨b1, 0, none⟩), .pointer (some ⟨b1, 0, none⟩), .slice A4 s3.L.length c5, iV (s3.L.length : Int), iV (w64 (Int.tdiv (w64 ((w64 (s3.vat + 1)) - 1)) (s3.L.length : Int))), uV, uV, uV, uV, uV, uV, uV, uV, uV, uV, uV, uV, uV, uV, uV], []⟩) rfl (by kernel_rfl) (by kernel_rfl) (by kernel_rfl) hnp (Sg.g0 (Sx.of [] (FM.le.refl _) HS36)) ?_
    refine doneG (by kernel_rfl) ?_ _
    refine hK34 _ _ ?_
    refine wp_seq_k (fun K37 hK38 => ?_)
    refine wp_region_lit ?_
    refine seqL3 (by kernel_rfl) ?_
    refine seqK rfl (does_run (run_load rfl Try.underlying30 rfl (by kernel_rfl : _ = Value.pointer (some ⟨b1, 0, none⟩)) (HS36.cell 0)) ?_)
    have hq_ := guard_some h; clear h; obtain ⟨c39, h⟩ := hq_
    have c39 : 0 ≤ (Int.tmod (w64 ((w64 (s3.vat + 1)) - 1)) (s3.L.length : Int)) := c39
    have hq_ := guard_some h; clear h; obtain ⟨c40, h⟩ := hq_
    have c40 : (Int.tmod (w64 ((w64 (s3.vat + 1)) - 1)) (s3.L.length : Int)) < (s3.L.length : Int) := c40
    obtain ⟨b44, of45, cs41, hA46, hr42, hc43⟩ := HR6.at (i := Int.tmod (w64 ((w64 (s3.vat + 1)) - 1)) (s3.L.length : Int)) c39 c40
    obtain rfl := hr42
    refine seqL1 (by kernel_rfl) ?_
    refine seqK rfl (does_run (run_indexE hA46 (sz := 1) rfl Try.underlying30 (by kernel_rfl) (by kernel_rfl : _ = Value.slice A4 s3.L.length c5) (by kernel_rfl : _ = Value.int .i64 (Int.tmod (w64 ((w64 (s3.vat + 1)) - 1)) (s3.L.length : Int))) c39 c40 W35) ?_)
    refine seqK rfl (does_run (run_load rfl Try.underlying3 rfl (by kernel_rfl : _ = Value.pointer (some ⟨b44, of45 + (Int.tmod (w64 ((w64 (s3.vat + 1)) - 1)) (s3.L.length : Int) : Int).toNat * 1, none⟩)) ((hc43 (FM.le.refl _) HS36) 0 (by decide))) ?_)
    have hq_ := bind_some h; clear h; obtain ⟨vt47, hc48, h⟩ := hq_
    refine seqK rfl (does_call (f := 15) (args := #[.int .i64 (rd s3.L (Int.tmod (w64 ((w64 (s3.vat + 1)) - 1)) (s3.L.length : Int))), .int .i64 1073741824]) (by kernel_rfl) (spymake_Below.calls k (rd s3.L (Int.tmod (w64 ((w64 (s3.vat + 1)) - 1)) (s3.L.length : Int))) 1073741824 HS36 vt47 hc48) ?_)
    rintro _ W51 ⟨f49, rfl, L50, HS52⟩
    refine ⟨_, rfl, ?_⟩
    have hq_ := bind_some h; clear h; obtain ⟨vt53, hc54, h⟩ := hq_
    refine seqL6 (by kernel_rfl) ?_
    refine seqK rfl (does_call (f := 15) (args := #[.int .i64 (w64 (vt47 + (w64 ((w64 (Int.tdiv (w64 ((w64 (s3.vat + 1)) - 1)) (s3.L.length : Int))) * (w64 (7919 + (Int.tmod (w64 ((w64 (s3.vat + 1)) - 1)) (s3.L.length : Int)))))))), .int .i64 n7]) (by kernel_rfl) (spymake_Below.calls k (w64 (vt47 + (w64 ((w64 (Int.tdiv (w64 ((w64 (s3.vat + 1)) - 1)) (s3.L.length : Int))) * (w64 (7919 + (Int.tmod (w64 ((w64 (s3.vat + 1)) - 1)) (s3.L.length : Int)))))))) n7 HS52 vt53 hc54) ?_)
    rintro _ W57 ⟨f55, rfl, L56, HS58⟩
    refine ⟨_, rfl, ?_⟩
    refine seqS1 (a' := ⟨#[.pointer (some ⟨b1, 0, none⟩), iV n7, uV, uV, iV vt53, iV (Int.tmod (w64 ((w64 (s3.vat + 1)) - 1)) (s3.L.length : Int)), iV (w64 (Int.tdiv (w64 ((w64 (s3.vat + 1)) - 1)) (s3.L.length : Int))), .pointer (some ⟨b1, 0, none⟩), .pointer (some ⟨b1, 0, none⟩), .pointer (some ⟨b1, 1, none⟩), iV s3.vat, iV (w64 (s3.vat + 1)), .pointer (some ⟨b1, 0, none⟩), .pointer (some ⟨b1, 1, none⟩), .pointer (some ⟨b1, 0, none⟩), .pointer (some ⟨b1, 0, none⟩), .pointer (some ⟨b1, 0, none⟩), .slice A4 s3.L.length c5, iV (s3.L.length : Int), .bool false, uV, uV, uV, uV, uV, uV, uV, .pointer (some ⟨b1, 0, none⟩), .pointer (some ⟨b1, 0, none⟩), .pointer (some ⟨b1, 1, none⟩), iV (w64 (s3.vat + 1)), iV (w64 ((w64 (s3.vat + 1)) - 1)), .pointer (some ⟨b1, 0, none⟩), .pointer (some ⟨b1, 0, none⟩), .pointer (some ⟨b1, 0, none⟩), .slice A4 s3.L.length c5, iV (s3.L.length : Int), iV (Int.tmod (w64 ((w64 (s3.vat + 1)) - 1)) (s3.L.length : Int)), .pointer (some ⟨b1, 0, none⟩), .pointer (some ⟨b1, 0, none⟩), .pointer (some ⟨b1, 1, none⟩), iV (w64 (s3.vat + 1)), iV (w64 ((w64 (s3.vat + 1)) - 1)), .pointer (some ⟨b1, 0, none⟩), .pointer (some ⟨b1, 0, none⟩), .pointer (some ⟨b1, 0, none⟩), .slice A4 s3.L.length c5, iV (s3.L.length : Int), iV (w64 (Int.tdiv (w64 ((w64 (s3.vat + 1)) - 1)) (s3.L.length : Int))), .pointer (some ⟨b1, 0, none⟩), .pointer (some ⟨b1, 0, none⟩), .pointer (some ⟨b1, 0, none⟩), .slice A4 s3.L.length c5, iV (Int.tmod (w64 ((w64 (s3.vat + 1)) - 1)) (s3.L.length : Int)), .pointer (some ⟨b44, of45 + (Int.tmod (w64 ((w64 (s3.vat + 1)) - 1)) (s3.L.length : Int) : Int).toNat * 1, none⟩), iV (rd s3.L (Int.tmod (w64 ((w64 (s3.vat + 1)) - 1)) (s3.L.length : Int))), iV vt47, iV (w64 (Int.tdiv (w64 ((w64 (s3.vat + 1)) - 1)) (s3.L.length : Int))), iV (Int.tmod (w64 ((w64 (s3.vat + 1)) - 1)) (s3.L.length : Int)), iV (w64 (7919 + (Int.tmod (w64 ((w64 (s3.vat + 1)) - 1)) (s3.L.length : Int)))), iV (w64 ((w64 (Int.tdiv (w64 ((w64 (s3.vat + 1)) - 1)) (s3.L.length : Int))) * (w64 (7919 + (Int.tmod (w64 ((w64 (s3.vat + 1)) - 1)) (s3.L.length : Int)))))), iV (w64 (vt47 + (w64 ((w64 (Int.tdiv (w64 ((w64 (s3.vat + 1)) - 1)) (s3.L.length : Int))) * (w64 (7919 + (Int.tmod (w64 ((w64 (s3.vat + 1)) - 1)) (s3.L.length : Int)))))))), iV n7, iV vt53], []⟩) (by kernel_rfl) ?_
    refine wpList_nil ?_
    refine hK38 _ _ ?_
    refine wp_ret ?_
    refine hret _ _ ?_
    refine ends_still (v := Value.int .i64 vt53) (by kernel_rfl) (by kernel_rfl) ?_
    injection h with h
    injection h with h0_ h
    subst h0_ h
    exact ⟨f55, rfl, (L50.trans L56), HS58⟩

set_option maxRecDepth 100000 in
set_option maxHeartbeats 4000000 in
theorem spymake_Stream_Range.calls (k : Nat) (b1 : Nat) (A4 : Option Addr) (c5 : Nat) (s3 : S_Stream) (low7 : Int) (high8 : Int) {t w : World} {f : FM} {H : List Seg} (HS : St t w f ([(b1, .cells #[.slice A4 s3.L.length c5, .int .i64 s3.vat] 33 (0, 0))] :: H)) (HR6 : SlR (tInt .i64) f A4 c5 s3.L) (r1 : Int) (r2 : Int) (h : spymake_Stream_Range k s3 low7 high8 = some (r1, r2)) :
    Calls Try.prog 14 #[.pointer (some ⟨b1, 0, none⟩), .int .i64 low7, .int .i64 high8] w (fun e w' => ∃ (g : FM), e = .returned (Value.int .i64 r1) ∧ FM.le f g ∧ St t w' g ([(b1, .cells #[.slice A4 s3.L.length c5, .int .i64 r2] 33 (0, 0))] :: H)) := by
  unfold spymake_Stream_Range at h
  refine enter Try.func14 rfl (tm := #[.pointer (some ⟨b1, 0, none⟩), iV low7, iV high8, uV, uV, uV, uV, uV, uV, uV, uV, uV, uV, uV, uV, uV, uV, uV, uV]) (by kernel_rfl) ?_
  intro B hret hnor hnp
  refine wp_seq_k (fun K9 hK10 => ?_)
  refine wp_region_lit ?_
  refine seqS1 (a' := ⟨#[.pointer (some ⟨b1, 0, none⟩), iV low7, iV high8, uV, uV, uV, iV 0, uV, uV, uV, uV, uV, uV, uV, uV, uV, uV, uV, uV], []⟩) (by kernel_rfl) ?_
  refine wpList_nil ?_
  refine hK10 _ _ ?_
  refine wp_seq_k (fun K11 hK12 => ?_)
  refine wp_seq_k (fun K13 hK14 => ?_)
  refine wp_region_lit ?_
  refine seqS3 (a' := ⟨#[.pointer (some ⟨b1, 0, none⟩), iV low7, iV high8, uV, uV, uV, iV 0, iV high8, iV low7, .bool (decide (high8 < low7)), uV, uV, uV, uV, uV, uV, uV, uV, uV], []⟩) (by kernel_rfl) ?_
  refine wpList_nil ?_
  refine hK14 _ _ ?_
  have hq_ := ite_some h; clear h; rcases hq_ with ⟨c16, h⟩ | ⟨c16, h⟩
  · have c16 : high8 < low7 := c16
    refine wpRwI 9 (x := (decide (high8 < low7))) (v := true) (by kernel_rfl) (decide_eq_true c16) ?_
    refine condT (by kernel_rfl) ?_
    refine wp_seq_k (fun K17 hK18 => ?_)
    refine wp_region_lit ?_
    refine seqS2 (a' := ⟨#[.pointer (some ⟨b1, 0, none⟩), iV low7, iV high8, uV, uV, uV, iV low7, iV high8, iV low7, .bool true, iV low7, uV, uV, uV, uV, uV, uV, uV, uV], []⟩) (by kernel_rfl) ?_
    refine wpList_nil ?_
    refine hK18 _ _ ?_
    refine wp_ret ?_
    refine hret _ _ ?_
    refine ends_still (v := Value.int .i64 low7) (by kernel_rfl) (by kernel_rfl) ?_
    injection h with h
    injection h with h0_ h
    subst h0_ h
    exact ⟨f, rfl, FM.le.refl _, HS⟩
  · have c16 : ¬ (high8 < low7) := c16
    refine wpRwI 9 (x := (decide (high8 < low7))) (v := false) (by kernel_rfl) (decide_eq_false c16) ?_
    refine condF (by kernel_rfl) ?_
    refine wp_skip ?_
    refine hK12 _ _ ?_
    refine wp_seq_k (fun K19 hK20 => ?_)
    refine wp_region_lit ?_
    have hq_ := bind_some h; clear h; obtain ⟨⟨vt21, vt22⟩, hc23, h⟩ := hq_
    refine seqL6 (by kernel_rfl) ?_
    refine seqK rfl (does_call (f := 30) (args := #[.pointer (some ⟨b1, 0, none⟩), .int .i64 (w64 ((w64 (high8 - low7)) + 1))]) (by kernel_rfl) (spymake_Stream_Next.calls k b1 A4 c5 s3 (w64 ((w64 (high8 - low7)) + 1)) HS HR6 vt21 vt22 hc23) ?_)
    rintro _ W26 ⟨f24, rfl, L25, HS27⟩
    refine ⟨_, rfl, ?_⟩
    refine seqS2 (a' := ⟨#[.pointer (some ⟨b1, 0, none⟩), iV low7, iV high8, uV, uV, uV, iV (w64 (low7 + vt21)), iV high8, iV low7, .bool false, uV, iV low7, .pointer (some ⟨b1, 0, none⟩), iV high8, iV low7, iV (w64 (high8 - low7)), iV (w64 ((w64 (high8 - low7)) + 1)), iV vt21, iV (w64 (low7 + vt21))], []⟩) (by kernel_rfl) ?_
    refine wpList_nil ?_
    refine hK20 _ _ ?_
    refine wp_ret ?_
    refine hret _ _ ?_
    refine ends_still (v := Value.int .i64 (w64 (low7 + vt21))) (by kernel_rfl) (by kernel_rfl) ?_
    injection h with h
    injection h with h0_ h
    subst h0_ h
    exact ⟨f24, rfl, L25, HS27⟩

set_option maxRecDepth 100000 in
set_option maxHeartbeats 4000000 in
theorem spymake_Stream_Vec.calls (k : Nat) (b1 : Nat) (A4 : Option Addr) (c5 : Nat) (s3 : S_Stream) {t w : World} {f : FM} {H : List Seg} (HS : St t w f ([(b1, .cells #[.slice A4 s3.L.length c5, .int .i64 s3.vat] 33 (0, 0))] :: H)) (HR6 : SlR (tInt .i64) f A4 c5 s3.L) (r1 : S_Vec) (r2 : Int) (h : spymake_Stream_Vec k s3 = some (r1, r2)) :
    Calls Try.prog 24 #[.pointer (some ⟨b1, 0, none⟩)] w (fun e w' => ∃ (g : FM), e = .returned (Value.agg #[.int .i64 r1.X, .int .i64 r1.Y, .int .i64 r1.Z]) ∧ FM.le f g ∧ St t w' g ([(b1, .cells #[.slice A4 s3.L.length c5, .int .i64 r2] 33 (0, 0))] :: H)) := by
  unfold spymake_Stream_Vec at h
  refine enter Try.func24 rfl (tm := #[.pointer (some ⟨b1, 0, none⟩), uV, uV, uV, uV, uV, uV, uV, uV, uV, uV, uV, uV, uV, uV, uV, uV, uV, uV, uV, uV, uV, uV, uV, uV, uV, uV, uV, uV, uV, uV]) (by kernel_rfl) ?_
  intro B hret hnor hnp
  refine wp_seq_k (fun K7 hK8 => ?_)
  refine wp_region_lit ?_
  refine seqK rfl (does_alloc (z := Value.agg #[.int .i64 0, .int .i64 0, .int .i64 0]) (cs := #[.int .i64 0, .int .i64 0, .int .i64 0]) rfl (by kernel_rfl) rfl HS ?_)
  intro b9 W10 HS11
  refine wpList_nil ?_
  refine hK8 _ _ ?_
  refine wp_seq_k (fun K13 hK14 => ?_)
  refine wp_region_lit ?_
  refine seqK rfl (does_lit (e := (tInt .i64)) (E := 3) (vs := #[(0, Value.int .i64 3), (1, Value.int .i64 100), (2, Value.int .i64 5000), (3, Value.int .i64 1048576)]) (cs := #[.int .i64 3, .int .i64 100, .int .i64 5000, .int .i64 1048576]) (xs := ([3, 100, 5000, 1048576] : List Int)) rfl Try.underlying30 (by kernel_rfl) (by kernel_rfl) ⟨[.int .i64 3], _, rfl, rfl, ⟨[.int .i64 100], _, rfl, rfl, ⟨[.int .i64 5000], _, rfl, rfl, ⟨[.int .i64 1048576], _, rfl, rfl, rfl⟩⟩⟩⟩ rfl HS11 ?_ (by decide))
  intro b15 W16 s17 HS18 _ HO19
  have HS21 := HS18.u2
  have hq_ := bind_some h; clear h; obtain ⟨⟨vt22, vt23⟩, hc24, h⟩ := hq_
  refine seqL1 (by kernel_rfl) ?_
  refine seqK rfl (does_call (f := 30) (args := #[.pointer (some ⟨b1, 0, none⟩), .int .i64 4]) (by kernel_rfl) (spymake_Stream_Next.calls k b1 A4 c5 s3 4 HS21 HR6 vt22 vt23 hc24) ?_)
  rintro _ W27 ⟨f25, rfl, L26, HS28⟩
  refine ⟨_, rfl, ?_⟩
  have hq_ := guard_some h; clear h; obtain ⟨c29, h⟩ := hq_
  have c29 : 0 ≤ vt22 := c29
  have hq_ := guard_some h; clear h; obtain ⟨c30, h⟩ := hq_
  have c30 : vt22 < (([3, 100, 5000, 1048576] : List Int).length : Int) := c30
  obtain ⟨cs31, hr32, hc33⟩ := (HO19.mono L26).at' (i := vt22) c29 c30
  obtain rfl := hr32
  refine seqK rfl (does_run (run_index (sz := 1) rfl Try.underlying30 (by kernel_rfl) (by kernel_rfl : _ = Value.slice (some ⟨b15, 0, none⟩) ([3, 100, 5000, 1048576] : List Int).length 4) (by kernel_rfl : _ = Value.int .i64 vt22) c29 c30 W27) ?_)
  refine seqK rfl (does_run (run_load rfl Try.underlying3 rfl (by kernel_rfl : _ = Value.pointer (some ⟨b15, 0 + (vt22 : Int).toNat * 1, none⟩)) ((hc33 HS28.u1) 0 (by decide))) ?_)
  refine seqS1 (a' := ⟨#[.pointer (some ⟨b1, 0, none⟩), uV, .pointer (some ⟨b9, 0, none⟩), iV (rd ([3, 100, 5000, 1048576] : List Int) vt22), uV, .slice (some ⟨b15, 0, none⟩) ([3, 100, 5000, 1048576] : List Int).length 4, .pointer (some ⟨b1, 0, none⟩), iV vt22, .pointer (some ⟨b15, 0 + (vt22 : Int).toNat * 1, none⟩), iV (rd ([3, 100, 5000, 1048576] : List Int) vt22), uV, uV, uV, uV, uV, uV, uV, uV, uV, uV, uV, uV, uV, uV, uV, uV, uV, uV, uV, uV, uV], []⟩) (by kernel_rfl) ?_
  refine wpList_nil ?_
  refine hK14 _ _ ?_
  refine wp_seq_k (fun K34 hK35 => ?_)
  refine wp_region_lit ?_
  have hq_ := bind_some h; clear h; obtain ⟨⟨vt36, vt37⟩, hc38, h⟩ := hq_
  refine seqL4 (by kernel_rfl) ?_
  refine seqK rfl (does_call (f := 14) (args := #[.pointer (some ⟨b1, 0, none⟩), .int .i64 (w64 (0 - (rd ([3, 100, 5000, 1048576] : List Int) vt22))), .int .i64 (rd ([3, 100, 5000, 1048576] : List Int) vt22)]) (by kernel_rfl) (spymake_Stream_Range.calls k b1 A4 c5 (⟨s3.L, vt23⟩ : S_Stream) (w64 (0 - (rd ([3, 100, 5000, 1048576] : List Int) vt22))) (rd ([3, 100, 5000, 1048576] : List Int) vt22) HS28 (HR6.mono L26) vt36 vt37 hc38) ?_)
  rintro _ W41 ⟨f39, rfl, L40, HS42⟩
  refine ⟨_, rfl, ?_⟩
  have hq_ := bind_some h; clear h; obtain ⟨⟨vt43, vt44⟩, hc45, h⟩ := hq_
  refine seqL4 (by kernel_rfl) ?_
  refine seqK rfl (does_call (f := 14) (args := #[.pointer (some ⟨b1, 0, none⟩), .int .i64 (w64 (0 - (rd ([3, 100, 5000, 1048576] : List Int) vt22))), .int .i64 (rd ([3, 100, 5000, 1048576] : List Int) vt22)]) (by kernel_rfl) (spymake_Stream_Range.calls k b1 A4 c5 (⟨s3.L, vt37⟩ : S_Stream) (w64 (0 - (rd ([3, 100, 5000, 1048576] : List Int) vt22))) (rd ([3, 100, 5000, 1048576] : List Int) vt22) HS42 (HR6.mono (L26.trans L40)) vt43 vt44 hc45) ?_)
  rintro _ W48 ⟨f46, rfl, L47, HS49⟩
  refine ⟨_, rfl, ?_⟩
  have hq_ := bind_some h; clear h; obtain ⟨⟨vt50, vt51⟩, hc52, h⟩ := hq_
  refine seqL4 (by kernel_rfl) ?_
  refine seqK rfl (does_call (f := 14) (args := #[.pointer (some ⟨b1, 0, none⟩), .int .i64 (w64 (0 - (rd ([3, 100, 5000, 1048576] : List Int) vt22))), .int .i64 (rd ([3, 100, 5000, 1048576] : List Int) vt22)]) (by kernel_rfl) (spymake_Stream_Range.calls k b1 A4 c5 (⟨s3.L, vt44⟩ : S_Stream) (w64 (0 - (rd ([3, 100, 5000, 1048576] : List Int) vt22))) (rd ([3, 100, 5000, 1048576] : List Int) vt22) HS49 (HR6.mono (L26.trans (L40.trans L47))) vt50 vt51 hc52) ?_)
  rintro _ W55 ⟨f53, rfl, L54, HS56⟩
  refine ⟨_, rfl, ?_⟩
  refine seqL1 (by kernel_rfl) ?_
  refine seqK rfl (does_alloc (z := Value.agg #[.int .i64 0, .int .i64 0, .int .i64 0]) (cs := #[.int .i64 0, .int .i64 0, .int .i64 0]) rfl (by kernel_rfl) rfl HS56 ?_)
  intro b57 W58 HS59
  refine seqK rfl (does_store (n := 3) (vs := [.int .i64 vt36, .int .i64 vt43, .int .i64 vt50]) (cs' := #[.int .i64 vt36, .int .i64 vt43, .int .i64 vt50]) rfl (by kernel_rfl) (by kernel_rfl : _ = Value.pointer (some ⟨b57, 0, none⟩)) (by kernel_rfl : _ = Value.agg #[.int .i64 vt36, .int .i64 vt43, .int .i64 vt50]) rfl rfl (by intro u_ hu_; simp only [List.mem_cons, List.not_mem_nil, or_false] at hu_; rcases hu_ with rfl | rfl | rfl <;> rfl) HS59 (Nat.le_of_ble_eq_true rfl) (by kernel_rfl) ?_)
  intro W61 HS62
  refine wpList_nil ?_
  refine hK35 _ _ ?_
  refine wp_seq_k (fun K63 hK64 => ?_)
  refine wp_seq_k (fun K65 hK66 => ?_)
  refine wp_region_lit ?_
  refine seqK rfl (does_run (run_loadN (n := 3) rfl Try.underlying23 rfl (by kernel_rfl) (by kernel_rfl : _ = Value.pointer (some ⟨b57, 0, none⟩)) (cs := [.int .i64 vt36, .int .i64 vt43, .int .i64 vt50]) rfl (HS62.cells 0 3 _ rfl)) ?_)
  refine seqL1 (by kernel_rfl) ?_
  refine seqK rfl (does_run (run_eqS (b := ((vt36 == 0) && ((vt43 == 0) && ((vt50 == 0) && true)))) rfl (by kernel_rfl : _ = Value.agg #[.int .i64 vt36, .int .i64 vt43, .int .i64 vt50]) (by kernel_rfl : _ = Value.agg #[.int .i64 0, .int .i64 0, .int .i64 0]) (by kernel_rfl) (by kernel_rfl) W61) ?_)
  refine wpList_nil ?_
  refine hK66 _ _ ?_
  have hq_ := ite_some h; clear h; rcases hq_ with ⟨c68, h⟩ | ⟨c68, h⟩
  · have c68 : ((vt36 == 0) && ((vt43 == 0) && ((vt50 == 0) && true))) = true := c68
    refine wpRwI 28 (x := ((vt36 == 0) && ((vt43 == 0) && ((vt50 == 0) && true)))) (v := true) (by kernel_rfl) c68 ?_
    refine condT (by kernel_rfl) ?_
    refine wp_region_lit ?_
    refine seqL1 (by kernel_rfl) ?_
    refine seqK rfl (does_store (n := 1) (vs := [.int .i64 1]) (cs' := #[.int .i64 1, .int .i64 vt43, .int .i64 vt50]) rfl (by kernel_rfl) (by kernel_rfl : _ = Value.pointer (some ⟨b57, 0, none⟩)) (by kernel_rfl : _ = Value.int .i64 1) rfl rfl (by intro u_ hu_; simp only [List.mem_cons, List.not_mem_nil, or_false] at hu_; subst hu_; rfl) HS62 (Nat.le_of_ble_eq_true rfl) (by kernel_rfl) ?_)
    intro W69 HS70
    refine wpList_nil ?_
    refine hK64 _ _ ?_
    refine wp_seq_k (fun K71 hK72 => ?_)
    refine wp_region_lit ?_
    refine seqK rfl (does_run (run_loadN (n := 3) rfl Try.underlying23 rfl (by kernel_rfl) (by kernel_rfl : _ = Value.pointer (some ⟨b57, 0, none⟩)) (cs := [.int .i64 1, .int .i64 vt43, .int .i64 vt50]) rfl (HS70.cells 0 3 _ rfl)) ?_)
    have HS73 := HS70.u3
    refine seqK rfl (does_store (n := 3) (vs := [.int .i64 1, .int .i64 vt43, .int .i64 vt50]) (cs' := #[.int .i64 1, .int .i64 vt43, .int .i64 vt50]) rfl (by kernel_rfl) (by kernel_rfl : _ = Value.pointer (some ⟨b9, 0, none⟩)) (by kernel_rfl : _ = Value.agg #[.int .i64 1, .int .i64 vt43, .int .i64 vt50]) rfl rfl (by intro u_ hu_; simp only [List.mem_cons, List.not_mem_nil, or_false] at hu_; rcases hu_ with rfl | rfl | rfl <;> rfl) HS73 (Nat.le_of_ble_eq_true rfl) (by kernel_rfl) ?_)
    intro W74 HS75
    refine wpList_nil ?_
    refine hK72 _ _ ?_
    refine wp_ret ?_
    refine hret _ _ ?_
    refine ends (v := Value.agg #[.int .i64 1, .int .i64 vt43, .int .i64 vt50]) (results1 (q1 := .cell 2 23) (by kernel_rfl) (resN (n := 3) (cs := [.int .i64 1, .int .i64 vt43, .int .i64 vt50]) (by kernel_rfl : _ = Value.pointer (some ⟨b9, 0, none⟩)) Try.underlying23 rfl (by kernel_rfl) rfl (HS75.cells 0 3 _ rfl))) (by kernel_rfl) ?_
    have HS81 := HS75.u2
    have HS82 := HS81.u3
    have HS83 := HS82.u3
    have HS84 := HS83.u3
    have HS85 := HS84.drop
    have HS86 := HS85.drop
    have HS87 := HS86.drop
    injection h with h
    injection h with h0_ h
    subst h0_ h
    exact ⟨f53, rfl, (L26.trans (L40.trans (L47.trans L54))), HS87⟩
  · have c68 : ¬ (((vt36 == 0) && ((vt43 == 0) && ((vt50 == 0) && true))) = true) := c68
    refine wpRwI 28 (x := ((vt36 == 0) && ((vt43 == 0) && ((vt50 == 0) && true)))) (v := false) (by kernel_rfl) (Bool.eq_false_iff.mpr c68) ?_
    refine condF (by kernel_rfl) ?_
    refine wp_skip ?_
    refine hK64 _ _ ?_
    refine wp_seq_k (fun K76 hK77 => ?_)
    refine wp_region_lit ?_
    refine seqK rfl (does_run (run_loadN (n := 3) rfl Try.underlying23 rfl (by kernel_rfl) (by kernel_rfl : _ = Value.pointer (some ⟨b57, 0, none⟩)) (cs := [.int .i64 vt36, .int .i64 vt43, .int .i64 vt50]) rfl (HS62.cells 0 3 _ rfl)) ?_)
    have HS78 := HS62.u3
    refine seqK rfl (does_store (n := 3) (vs := [.int .i64 vt36, .int .i64 vt43, .int .i64 vt50]) (cs' := #[.int .i64 vt36, .int .i64 vt43, .int .i64 vt50]) rfl (by kernel_rfl) (by kernel_rfl : _ = Value.pointer (some ⟨b9, 0, none⟩)) (by kernel_rfl : _ = Value.agg #[.int .i64 vt36, .int .i64 vt43, .int .i64 vt50]) rfl rfl (by intro u_ hu_; simp only [List.mem_cons, List.not_mem_nil, or_false] at hu_; rcases hu_ with rfl | rfl | rfl <;> rfl) HS78 (Nat.le_of_ble_eq_true rfl) (by kernel_rfl) ?_)
    intro W79 HS80
    refine wpList_nil ?_
    refine hK77 _ _ ?_
    refine wp_ret ?_
    refine hret _ _ ?_
    refine ends (v := Value.agg #[.int .i64 vt36, .int .i64 vt43, .int .i64 vt50]) (results1 (q1 := .cell 2 23) (by kernel_rfl) (resN (n := 3) (cs := [.int .i64 vt36, .int .i64 vt43, .int .i64 vt50]) (by kernel_rfl : _ = Value.pointer (some ⟨b9, 0, none⟩)) Try.underlying23 rfl (by kernel_rfl) rfl (HS80.cells 0 3 _ rfl))) (by kernel_rfl) ?_
    have HS88 := HS80.u2
    have HS89 := HS88.u3
    have HS90 := HS89.u3
    have HS91 := HS90.u3
    have HS92 := HS91.drop
    have HS93 := HS92.drop
    have HS94 := HS93.drop
    injection h with h
    injection h with h0_ h
    subst h0_ h
    exact ⟨f53, rfl, (L26.trans (L40.trans (L47.trans L54))), HS94⟩

set_option maxRecDepth 100000 in
set_option maxHeartbeats 4000000 in
theorem spymake_Stream_rate.calls (k : Nat) (b1 : Nat) (A4 : Option Addr) (c5 : Nat) (s3 : S_Stream) {t w : World} {f : FM} {H : List Seg} (HS : St t w f ([(b1, .cells #[.slice A4 s3.L.length c5, .int .i64 s3.vat] 33 (0, 0))] :: H)) (HR6 : SlR (tInt .i64) f A4 c5 s3.L) (r1 : Int) (r2 : Int) (h : spymake_Stream_rate k s3 = some (r1, r2)) :
    Calls Try.prog 32 #[.pointer (some ⟨b1, 0, none⟩)] w (fun e w' => ∃ (g : FM), e = .returned (Value.int .i64 r1) ∧ FM.le f g ∧ St t w' g ([(b1, .cells #[.slice A4 s3.L.length c5, .int .i64 r2] 33 (0, 0))] :: H)) := by
  unfold spymake_Stream_rate at h
  refine enter Try.func32 rfl (tm := #[.pointer (some ⟨b1, 0, none⟩), uV, uV, uV, uV, uV, uV, uV, uV, uV]) (by kernel_rfl) ?_
  intro B hret hnor hnp
  refine wp_seq_k (fun K7 hK8 => ?_)
  refine wp_region_lit ?_
  refine seqS1 (a' := ⟨#[.pointer (some ⟨b1, 0, none⟩), uV, iV 0, uV, uV, uV, uV, uV, uV, uV], []⟩) (by kernel_rfl) ?_
  refine wpList_nil ?_
  refine hK8 _ _ ?_
  refine wp_seq_k (fun K9 hK10 => ?_)
  refine wp_region_lit ?_
  refine seqL1 (by kernel_rfl) ?_
  refine seqK rfl (does_lit (e := (tInt .i64)) (E := 3) (vs := #[(0, Value.int .i64 50), (1, Value.int .i64 500), (2, Value.int .i64 5000), (3, Value.int .i64 5000), (4, Value.int .i64 40000), (5, Value.int .i64 1048577)]) (cs := #[.int .i64 50, .int .i64 500, .int .i64 5000, .int .i64 5000, .int .i64 40000, .int .i64 1048577]) (xs := ([50, 500, 5000, 5000, 40000, 1048577] : List Int)) rfl Try.underlying30 (by kernel_rfl) (by kernel_rfl) ⟨[.int .i64 50], _, rfl, rfl, ⟨[.int .i64 500], _, rfl, rfl, ⟨[.int .i64 5000], _, rfl, rfl, ⟨[.int .i64 5000], _, rfl, rfl, ⟨[.int .i64 40000], _, rfl, rfl, ⟨[.int .i64 1048577], _, rfl, rfl, rfl⟩⟩⟩⟩⟩⟩ rfl HS ?_ (by decide))
  intro b11 W12 s13 HS14 _ HO15
  have HS17 := HS14.u1
  have hq_ := bind_some h; clear h; obtain ⟨⟨vt18, vt19⟩, hc20, h⟩ := hq_
  refine seqL1 (by kernel_rfl) ?_
  refine seqK rfl (does_call (f := 30) (args := #[.pointer (some ⟨b1, 0, none⟩), .int .i64 6]) (by kernel_rfl) (spymake_Stream_Next.calls k b1 A4 c5 s3 6 HS17 HR6 vt18 vt19 hc20) ?_)
  rintro _ W23 ⟨f21, rfl, L22, HS24⟩
  refine ⟨_, rfl, ?_⟩
  have hq_ := guard_some h; clear h; obtain ⟨c25, h⟩ := hq_
  have c25 : 0 ≤ vt18 := c25
  have hq_ := guard_some h; clear h; obtain ⟨c26, h⟩ := hq_
  have c26 : vt18 < (([50, 500, 5000, 5000, 40000, 1048577] : List Int).length : Int) := c26
  obtain ⟨cs27, hr28, hc29⟩ := (HO15.mono L22).at' (i := vt18) c25 c26
  obtain rfl := hr28
  refine seqK rfl (does_run (run_index (sz := 1) rfl Try.underlying30 (by kernel_rfl) (by kernel_rfl : _ = Value.slice (some ⟨b11, 0, none⟩) ([50, 500, 5000, 5000, 40000, 1048577] : List Int).length 6) (by kernel_rfl : _ = Value.int .i64 vt18) c25 c26 W23) ?_)
  refine seqK rfl (does_run (run_load rfl Try.underlying3 rfl (by kernel_rfl : _ = Value.pointer (some ⟨b11, 0 + (vt18 : Int).toNat * 1, none⟩)) ((hc29 HS24.u1) 0 (by decide))) ?_)
  have hq_ := bind_some h; clear h; obtain ⟨⟨vt30, vt31⟩, hc32, h⟩ := hq_
  refine seqK rfl (does_call (f := 30) (args := #[.pointer (some ⟨b1, 0, none⟩), .int .i64 (rd ([50, 500, 5000, 5000, 40000, 1048577] : List Int) vt18)]) (by kernel_rfl) (spymake_Stream_Next.calls k b1 A4 c5 (⟨s3.L, vt19⟩ : S_Stream) (rd ([50, 500, 5000, 5000, 40000, 1048577] : List Int) vt18) HS24 (HR6.mono L22) vt30 vt31 hc32) ?_)
  rintro _ W35 ⟨f33, rfl, L34, HS36⟩
  refine ⟨_, rfl, ?_⟩
  refine seqS1 (a' := ⟨#[.pointer (some ⟨b1, 0, none⟩), uV, iV vt30, .pointer (some ⟨b1, 0, none⟩), .slice (some ⟨b11, 0, none⟩) ([50, 500, 5000, 5000, 40000, 1048577] : List Int).length 6, .pointer (some ⟨b1, 0, none⟩), iV vt18, .pointer (some ⟨b11, 0 + (vt18 : Int).toNat * 1, none⟩), iV (rd ([50, 500, 5000, 5000, 40000, 1048577] : List Int) vt18), iV vt30], []⟩) (by kernel_rfl) ?_
  refine wpList_nil ?_
  refine hK10 _ _ ?_
  refine wp_ret ?_
  refine hret _ _ ?_
  refine ends_still (v := Value.int .i64 vt30) (by kernel_rfl) (by kernel_rfl) ?_
  have HS37 := HS36.u1
  have HS38 := HS37.drop
  injection h with h
  injection h with h0_ h
  subst h0_ h
  exact ⟨f33, rfl, (L22.trans L34), HS38⟩

set_option maxRecDepth 100000 in
set_option maxHeartbeats 4000000 in
theorem spymake_Stream_Star.calls (k : Nat) (b1 : Nat) (A4 : Option Addr) (c5 : Nat) (s3 : S_Stream) (vid7 : Int) (vat8 : S_Vec) {t w : World} {f : FM} {H : List Seg} (HS : St t w f ([(b1, .cells #[.slice A4 s3.L.length c5, .int .i64 s3.vat] 33 (0, 0))] :: H)) (HR6 : SlR (tInt .i64) f A4 c5 s3.L) (r1 : S_Star) (r2 : Int) (h : spymake_Stream_Star k s3 vid7 vat8 = some (r1, r2)) :
    Calls Try.prog 23 #[.pointer (some ⟨b1, 0, none⟩), .int .i64 vid7, .agg #[.int .i64 vat8.X, .int .i64 vat8.Y, .int .i64 vat8.Z]] w (fun e w' => ∃ (g : FM) (A444 : Option Addr) (c445 : Nat) (s446 : Seg), e = .returned (Value.agg #[.int .i64 r1.ID, .int .i64 r1.At.X, .int .i64 r1.At.Y, .int .i64 r1.At.Z, .int .i64 r1.Rate, .slice A444 r1.Wave.length c445, .int .i64 r1.Period, .int .i64 r1.From, .int .i64 r1.To]) ∧ FM.le f g ∧ St t w' g (s446 :: [(b1, .cells #[.slice A4 s3.L.length c5, .int .i64 r2] 33 (0, 0))] :: H) ∧ Own (tInt .i64) 34 g A444 c445 s446 r1.Wave) := by
  unfold spymake_Stream_Star at h
  refine enter Try.func23 rfl (tm := #[.pointer (some ⟨b1, 0, none⟩), iV vid7, .agg #[iV vat8.X, iV vat8.Y, iV vat8.Z], uV, uV, uV, uV, uV, uV, uV, uV, uV, uV, uV, uV, uV, uV, uV, uV, uV, uV, uV, uV, uV, uV, uV, uV, uV, uV, uV, uV, uV, uV, uV, uV, uV, uV, uV, uV, uV, uV, uV, uV, uV, uV, uV, uV, uV, uV, uV, uV, uV, uV, uV, uV, uV, uV]) (by kernel_rfl) ?_
  intro B hret hnor hnp
  refine wp_seq_k (fun K9 hK10 => ?_)
  refine wp_region_lit ?_
  refine seqK rfl (does_box (cs := #[.int .i64 vat8.X, .int .i64 vat8.Y, .int .i64 vat8.Z]) rfl (by kernel_rfl : _ = Value.agg #[.int .i64 vat8.X, .int .i64 vat8.Y, .int .i64 vat8.Z]) rfl HS ?_)
  intro b11 W12 HS13
  refine seqK rfl (does_alloc (z := Value.agg #[.int .i64 0, .int .i64 0, .int .i64 0, .int .i64 0, .int .i64 0, .slice none 0 0, .int .i64 0, .int .i64 0, .int .i64 0]) (cs := #[.int .i64 0, .int .i64 0, .int .i64 0, .int .i64 0, .int .i64 0, .slice none 0 0, .int .i64 0, .int .i64 0, .int .i64 0]) rfl (by kernel_rfl) rfl HS13 ?_)
  intro b15 W16 HS17
  refine wpList_nil ?_
  refine hK10 _ _ ?_
  refine wp_seq_k (fun K19 hK20 => ?_)
  have HS21 := HS17.u1
  have HS22 := HS21.u1
  have HS23 := HS22.u2
  refine heldG (S := Sg t f ([(b15, .cells #[.int .i64 0, .int .i64 0, .int .i64 0, .int .i64 0, .int .i64 0, .slice none 0 0, .int .i64 0, .int .i64 0, .int .i64 0] 62 (0, 0))] :: [(b11, .cells #[.int .i64 vat8.X, .int .i64 vat8.Y, .int .i64 vat8.Z] 23 (0, 0))] :: H) [(3, [(b1, .cells #[.slice A4 s3.L.length c5, .int .i64 s3.vat] 33 (0, 0))])]) (n := 7) (by kernel_rfl) rfl HS23 ?_
  intro W24 HS25
  refine takeG [0] (n := 7) (fuel := 6) (l' := #[true, false, false, false, false, false, false]) (a' := ⟨#[.pointer (some ⟨b1, 0, none⟩), iV vid7, .agg #[iV vat8.X, iV vat8.Y, iV vat8.Z], uV, uV, .pointer (some ⟨b11, 0, none⟩), .pointer (some ⟨b15, 0, none⟩), uV, iV vid7, uV, uV, uV, uV, uV, uV, uV, uV, uV, uV, uV, uV, uV, uV, uV, uV, uV, uV, uV, uV, uV, uV, uV, uV, uV, uV, uV, uV, uV, uV, uV, uV, uV, uV, uV, uV, uV, uV, uV, uV, uV, uV, uV, uV, uV, uV, uV, uV], []⟩) rfl (by kernel_rfl) (by kernel_rfl) (by kernel_rfl) hnp (Sg.g1 (Sx.of [[(b1, .cells #[.slice A4 s3.L.length c5, .int .i64 s3.vat] 33 (0, 0))]] (FM.le.refl _) HS25) (fun _ => St.only [] HS25 (FM.le.refl _))) ?_
  refine takeGQ 1 [] rfl (by kernel_rfl) (by kernel_rfl) (by kernel_rfl) (by kernel_rfl) (by kernel_rfl) (by kernel_rfl) hnp (Sg.g1 (Sx.of [[(b1, .cells #[.slice A4 s3.L.length c5, .int .i64 s3.vat] 33 (0, 0))]] (FM.le.refl _) HS25) (fun _ => St.only [] HS25 (FM.le.refl _))) (fun w_ hw_ => by obtain ⟨g_, hl_, hS_⟩ := hw_.st; exact run_loadN (n := 3) rfl Try.underlying23 rfl (by kernel_rfl) (by kernel_rfl : _ = Value.pointer (some ⟨b11, 0, none⟩)) (cs := [.int .i64 vat8.X, .int .i64 vat8.Y, .int .i64 vat8.Z]) rfl (hS_.u1.cells 0 3 _ rfl)) ?_
  have hq_ := bind_some h; clear h; obtain ⟨⟨vt26, vt27⟩, hc28, h⟩ := hq_
  refine takeG [2] (n := 5) (fuel := 4) (l' := #[true, true, true, false, false, false, false]) (a' := ⟨#[.pointer (some ⟨b1, 0, none⟩), iV vid7, .agg #[iV vat8.X, iV vat8.Y, iV vat8.Z], uV, uV, .pointer (some ⟨b11, 0, none⟩), .pointer (some ⟨b15, 0, none⟩), uV, iV vid7, .agg #[iV vat8.X, iV vat8.Y, iV vat8.Z], .pointer (some ⟨b1, 0, none⟩), uV, uV, uV, uV, uV, uV, uV, uV, uV, uV, uV, uV, uV, uV, uV, uV, uV, uV, uV, uV, uV, uV, uV, uV, uV, uV, uV, uV, uV, uV, uV, uV, uV, uV, uV, uV, uV, uV, uV, uV, uV, uV, uV, uV, uV, uV], []⟩) rfl (by kernel_rfl) (by kernel_rfl) (by kernel_rfl) hnp (Sg.g1 (Sx.of [[(b1, .cells #[.slice A4 s3.L.length c5, .int .i64 s3.vat] 33 (0, 0))]] (FM.le.refl _) HS25) (fun _ => St.only [] HS25 (FM.le.refl _))) ?_
  refine withR #[true, true, true, true, true, true, true] ?_
  intro R39 hR40 hR41
  have J42 : ∀ (f29 : FM) (b33 : Nat) (W43 : World) (a_ : Act), FM.le f f29 → St t W43 f29 ([(b33, .cells #[.int .i64 vid7, .int .i64 vat8.X, .int .i64 vat8.Y, .int .i64 vat8.Z, .int .i64 vt26, .slice none 0 0, .int .i64 0, .int .i64 (-17592186044416), .int .i64 17592186044416] 62 (0, 0))] :: [(b1, .cells #[.slice A4 s3.L.length c5, .int .i64 vt27] 33 (0, 0))] :: [(b15, .cells #[.int .i64 0, .int .i64 0, .int .i64 0, .int .i64 0, .int .i64 0, .slice none 0 0, .int .i64 0, .int .i64 0, .int .i64 0] 62 (0, 0))] :: [(b11, .cells #[.int .i64 vat8.X, .int .i64 vat8.Y, .int .i64 vat8.Z] 23 (0, 0))] :: H) → a_ = ⟨#[.pointer (some ⟨b1, 0, none⟩), iV vid7, .agg #[iV vat8.X, iV vat8.Y, iV vat8.Z], uV, uV, .pointer (some ⟨b11, 0, none⟩), .pointer (some ⟨b15, 0, none⟩), .pointer (some ⟨b33, 0, none⟩), iV vid7, .agg #[iV vat8.X, iV vat8.Y, iV vat8.Z], .pointer (some ⟨b1, 0, none⟩), iV vt26, .agg #[iV vid7, iV vat8.X, iV vat8.Y, iV vat8.Z, iV vt26, .slice none 0 0, iV 0, iV (-17592186044416), iV 17592186044416], uV, uV, uV, uV, uV, uV, uV, uV, uV, uV, uV, uV, uV, uV, uV, uV, uV, uV, uV, uV, uV, uV, uV, uV, uV, uV, uV, uV, uV, uV, uV, uV, uV, uV, uV, uV, uV, uV, uV, uV, uV, uV, uV, uV], []⟩ → R39 a_ W43 := by
    intro f29 b33 W43 a_ L30 HS44 hfr_; subst hfr_
    refine hR40 _ _ ?_
    refine doneG (by kernel_rfl) ?_ _
    refine hK20 _ _ ?_
    refine wp_seq_k (fun K67 hK68 => ?_)
    refine wp_seq_k (fun K69 hK70 => ?_)
    refine wp_region_lit ?_
    have HS71 := HS44.u1
    have hq_ := bind_some h; clear h; obtain ⟨⟨vt72, vt73⟩, hc74, h⟩ := hq_
    refine seqL1 (by kernel_rfl) ?_
    refine seqK rfl (does_call (f := 30) (args := #[.pointer (some ⟨b1, 0, none⟩), .int .i64 4]) (by kernel_rfl) (spymake_Stream_Next.calls k b1 A4 c5 (⟨s3.L, vt27⟩ : S_Stream) 4 HS71 (HR6.mono L30) vt72 vt73 hc74) ?_)
    rintro _ W77 ⟨f75, rfl, L76, HS78⟩
    refine ⟨_, rfl, ?_⟩
    refine seqS1 (a' := ⟨#[.pointer (some ⟨b1, 0, none⟩), iV vid7, .agg #[iV vat8.X, iV vat8.Y, iV vat8.Z], uV, uV, .pointer (some ⟨b11, 0, none⟩), .pointer (some ⟨b15, 0, none⟩), .pointer (some ⟨b33, 0, none⟩), iV vid7, .agg #[iV vat8.X, iV vat8.Y, iV vat8.Z], .pointer (some ⟨b1, 0, none⟩), iV vt26, .agg #[iV vid7, iV vat8.X, iV vat8.Y, iV vat8.Z, iV vt26, .slice none 0 0, iV 0, iV (-17592186044416), iV 17592186044416], .pointer (some ⟨b1, 0, none⟩), iV vt72, .bool (vt72 == 0), uV, uV, uV, uV, uV, uV, uV, uV, uV, uV, uV, uV, uV, uV, uV, uV, uV, uV, uV, uV, uV, uV, uV, uV, uV, uV, uV, uV, uV, uV, uV, uV, uV, uV, uV, uV, uV, uV, uV, uV, uV], []⟩) (by kernel_rfl) ?_
    refine wpList_nil ?_
    refine hK70 _ _ ?_
    have hq_ := bind_some h; clear h; obtain ⟨v79, hv362, h⟩ := hq_
    have J363 : ∀ (f349 : FM) (A356 : Option Addr) (c357 : Nat) (s358 : Seg) (x354 : Int) (x355 : List Int) (x361 : Int) (j353 : Nat → Value) (W351 : World) (a_ : Act), FM.le f75 f349 → some ((x354, x355, x361)) = some v79 → St t W351 f349 (s358 :: [(b1, .cells #[.slice A4 s3.L.length c5, .int .i64 x354] 33 (0, 0))] :: [(b33, .cells #[.int .i64 vid7, .int .i64 vat8.X, .int .i64 vat8.Y, .int .i64 vat8.Z, .int .i64 vt26, .slice A356 x355.length c357, .int .i64 x361, .int .i64 (-17592186044416), .int .i64 17592186044416] 62 (0, 0))] :: [(b15, .cells #[.int .i64 0, .int .i64 0, .int .i64 0, .int .i64 0, .int .i64 0, .slice none 0 0, .int .i64 0, .int .i64 0, .int .i64 0] 62 (0, 0))] :: [(b11, .cells #[.int .i64 vat8.X, .int .i64 vat8.Y, .int .i64 vat8.Z] 23 (0, 0))] :: H) → Own (tInt .i64) 34 f349 A356 c357 s358 x355 → a_ = ⟨#[.pointer (some ⟨b1, 0, none⟩), iV vid7, .agg #[iV vat8.X, iV vat8.Y, iV vat8.Z], uV, uV, .pointer (some ⟨b11, 0, none⟩), .pointer (some ⟨b15, 0, none⟩), .pointer (some ⟨b33, 0, none⟩), iV vid7, .agg #[iV vat8.X, iV vat8.Y, iV vat8.Z], .pointer (some ⟨b1, 0, none⟩), iV vt26, .agg #[iV vid7, iV vat8.X, iV vat8.Y, iV vat8.Z, iV vt26, .slice none 0 0, iV 0, iV (-17592186044416), iV 17592186044416], .pointer (some ⟨b1, 0, none⟩), iV vt72, (j353 0), (j353 1), (j353 2), (j353 3), (j353 4), (j353 5), (j353 6), (j353 7), (j353 8), (j353 9), (j353 10), (j353 11), (j353 12), (j353 13), (j353 14), (j353 15), (j353 16), (j353 17), (j353 18), (j353 19), (j353 20), (j353 21), (j353 22), (j353 23), (j353 24), (j353 25), (j353 26), (j353 27), (j353 28), uV, uV, uV, uV, uV, uV, uV, uV, uV, uV, uV, uV, uV], []⟩ → K67 a_ W351 := by
      intro f349 A356 c357 s358 x354 x355 x361 j353 W351 a_ L350 hj364 HS352 HO359 hfr_; subst hfr_
      injection hj364 with hj364; subst hj364; try dsimp only at h
      refine hK68 _ _ ?_
      refine wp_seq_k (fun K374 hK375 => ?_)
      refine wp_seq_k (fun K376 hK377 => ?_)
      refine wp_region_lit ?_
      have HS378 := HS352.u1
      have hq_ := bind_some h; clear h; obtain ⟨⟨vt379, vt380⟩, hc381, h⟩ := hq_
      refine seqL1 (by kernel_rfl) ?_
      refine seqK rfl (does_call (f := 30) (args := #[.pointer (some ⟨b1, 0, none⟩), .int .i64 5]) (by kernel_rfl) (spymake_Stream_Next.calls k b1 A4 c5 (⟨s3.L, x354⟩ : S_Stream) 5 HS378 (HR6.mono (L30.trans (L76.trans L350))) vt379 vt380 hc381) ?_)
      rintro _ W384 ⟨f382, rfl, L383, HS385⟩
      refine ⟨_, rfl, ?_⟩
      refine seqS1 (a' := ⟨#[.pointer (some ⟨b1, 0, none⟩), iV vid7, .agg #[iV vat8.X, iV vat8.Y, iV vat8.Z], uV, uV, .pointer (some ⟨b11, 0, none⟩), .pointer (some ⟨b15, 0, none⟩), .pointer (some ⟨b33, 0, none⟩), iV vid7, .agg #[iV vat8.X, iV vat8.Y, iV vat8.Z], .pointer (some ⟨b1, 0, none⟩), iV vt26, .agg #[iV vid7, iV vat8.X, iV vat8.Y, iV vat8.Z, iV vt26, .slice none 0 0, iV 0, iV (-17592186044416), iV 17592186044416], .pointer (some ⟨b1, 0, none⟩), iV vt72, (j353 0), (j353 1), (j353 2), (j353 3), (j353 4), (j353 5), (j353 6), (j353 7), (j353 8), (j353 9), (j353 10), (j353 11), (j353 12), (j353 13), (j353 14), (j353 15), (j353 16), (j353 17), (j353 18), (j353 19), (j353 20), (j353 21), (j353 22), (j353 23), (j353 24), (j353 25), (j353 26), (j353 27), (j353 28), .pointer (some ⟨b1, 0, none⟩), iV vt379, .bool (vt379 == 0), uV, uV, uV, uV, uV, uV, uV, uV, uV, uV], []⟩) (by kernel_rfl) ?_
      refine wpList_nil ?_
      refine hK377 _ _ ?_
      have hq_ := ite_some h; clear h; rcases hq_ with ⟨c387, h⟩ | ⟨c387, h⟩
      · have c387 : vt379 = 0 := c387
        refine wpRwI 46 (x := (vt379 == 0)) (v := true) (by kernel_rfl) (beq_iff_eq.mpr c387) ?_
        refine condT (by kernel_rfl) ?_
        refine wp_seq_k (fun K388 hK389 => ?_)
        refine wp_region_lit ?_
        have hq_ := bind_some h; clear h; obtain ⟨⟨vt390, vt391⟩, hc392, h⟩ := hq_
        refine seqL1 (by kernel_rfl) ?_
        refine seqK rfl (does_call (f := 14) (args := #[.pointer (some ⟨b1, 0, none⟩), .int .i64 (-20000), .int .i64 20000]) (by kernel_rfl) (spymake_Stream_Range.calls k b1 A4 c5 (⟨s3.L, vt380⟩ : S_Stream) (-20000) 20000 HS385 (HR6.mono (L30.trans (L76.trans (L350.trans L383)))) vt390 vt391 hc392) ?_)
        rintro _ W395 ⟨f393, rfl, L394, HS396⟩
        refine ⟨_, rfl, ?_⟩
        have HS397 := HS396.u2
        refine seqL1 (by kernel_rfl) ?_
        refine seqK rfl (does_store (n := 1) (vs := [.int .i64 vt390]) (cs' := #[.int .i64 vid7, .int .i64 vat8.X, .int .i64 vat8.Y, .int .i64 vat8.Z, .int .i64 vt26, .slice A356 x355.length c357, .int .i64 x361, .int .i64 vt390, .int .i64 17592186044416]) rfl (by kernel_rfl) (by kernel_rfl : _ = Value.pointer (some ⟨b33, 7, none⟩)) (by kernel_rfl : _ = Value.int .i64 vt390) rfl rfl (by intro u_ hu_; simp only [List.mem_cons, List.not_mem_nil, or_false] at hu_; subst hu_; rfl) HS397 (Nat.le_of_ble_eq_true rfl) (by kernel_rfl) ?_)
        intro W398 HS399
        refine wpList_nil ?_
        refine hK389 _ _ ?_
        have HS400 := HS399.u4
        have HS401 := HS400.u4
        have HS402 := HS401.u4
        have HS403 := HS402.u4
        have HS404 := HS403.u4
        refine heldG (S := Sg t f393 (s358 :: [(b15, .cells #[.int .i64 0, .int .i64 0, .int .i64 0, .int .i64 0, .int .i64 0, .slice none 0 0, .int .i64 0, .int .i64 0, .int .i64 0] 62 (0, 0))] :: [(b11, .cells #[.int .i64 vat8.X, .int .i64 vat8.Y, .int .i64 vat8.Z] 23 (0, 0))] :: H) [(6, [(b33, .cells #[.int .i64 vid7, .int .i64 vat8.X, .int .i64 vat8.Y, .int .i64 vat8.Z, .int .i64 vt26, .slice A356 x355.length c357, .int .i64 x361, .int .i64 vt390, .int .i64 17592186044416] 62 (0, 0))]), (3, [(b1, .cells #[.slice A4 s3.L.length c5, .int .i64 vt391] 33 (0, 0))])]) (n := 7) (by kernel_rfl) rfl HS404 ?_
        intro W405 HS406
        refine takeG [0] (n := 7) (fuel := 6) (l' := #[true, false, false, false, false, false, false]) (a' := ⟨#[.pointer (some ⟨b1, 0, none⟩), iV vid7, .agg #[iV vat8.X, iV vat8.Y, iV vat8.Z], uV, uV, .pointer (some ⟨b11, 0, none⟩), .pointer (some ⟨b15, 0, none⟩), .pointer (some ⟨b33, 0, none⟩), iV vid7, .agg #[iV vat8.X, iV vat8.Y, iV vat8.Z], .pointer (some ⟨b1, 0, none⟩), iV vt26, .agg #[iV vid7, iV vat8.X, iV vat8.Y, iV vat8.Z, iV vt26, .slice none 0 0, iV 0, iV (-17592186044416), iV 17592186044416], .pointer (some ⟨b1, 0, none⟩), iV vt72, (j353 0), (j353 1), (j353 2), (j353 3), (j353 4), (j353 5), (j353 6), (j353 7), (j353 8), (j353 9), (j353 10), (j353 11), (j353 12), (j353 13), (j353 14), (j353 15), (j353 16), (j353 17), (j353 18), (j353 19), (j353 20), (j353 21), (j353 22), (j353 23), (j353 24), (j353 25), (j353 26), (j353 27), (j353 28), .pointer (some ⟨b1, 0, none⟩), iV vt379, .bool true, .pointer (some ⟨b1, 0, none⟩), iV vt390, .pointer (some ⟨b33, 7, none⟩), .pointer (some ⟨b33, 7, none⟩), uV, uV, uV, uV, uV, uV], []⟩) rfl (by kernel_rfl) (by kernel_rfl) (by kernel_rfl) hnp (Sg.g2 (Sx.of [[(b33, .cells #[.int .i64 vid7, .int .i64 vat8.X, .int .i64 vat8.Y, .int .i64 vat8.Z, .int .i64 vt26, .slice A356 x355.length c357, .int .i64 x361, .int .i64 vt390, .int .i64 17592186044416] 62 (0, 0))], [(b1, .cells #[.slice A4 s3.L.length c5, .int .i64 vt391] 33 (0, 0))]] (FM.le.refl _) HS406) (fun _ => St.only [] HS406 (FM.le.refl _)) (fun _ => St.only [[(b33, .cells #[.int .i64 vid7, .int .i64 vat8.X, .int .i64 vat8.Y, .int .i64 vat8.Z, .int .i64 vt26, .slice A356 x355.length c357, .int .i64 x361, .int .i64 vt390, .int .i64 17592186044416] 62 (0, 0))]] HS406 (FM.le.refl _))) ?_
        refine takeGQ 1 [6] rfl (by kernel_rfl) (by kernel_rfl) (by kernel_rfl) (by kernel_rfl) (by kernel_rfl) (by kernel_rfl) hnp (Sg.g2 (Sx.of [[(b33, .cells #[.int .i64 vid7, .int .i64 vat8.X, .int .i64 vat8.Y, .int .i64 vat8.Z, .int .i64 vt26, .slice A356 x355.length c357, .int .i64 x361, .int .i64 vt390, .int .i64 17592186044416] 62 (0, 0))], [(b1, .cells #[.slice A4 s3.L.length c5, .int .i64 vt391] 33 (0, 0))]] (FM.le.refl _) HS406) (fun _ => St.only [] HS406 (FM.le.refl _)) (fun _ => St.only [[(b33, .cells #[.int .i64 vid7, .int .i64 vat8.X, .int .i64 vat8.Y, .int .i64 vat8.Z, .int .i64 vt26, .slice A356 x355.length c357, .int .i64 x361, .int .i64 vt390, .int .i64 17592186044416] 62 (0, 0))]] HS406 (FM.le.refl _))) (fun w_ hw_ => by obtain ⟨g_, hl_, hS_⟩ := hw_.seg (j := 6) (s := [(b33, .cells #[.int .i64 vid7, .int .i64 vat8.X, .int .i64 vat8.Y, .int .i64 vat8.Z, .int .i64 vt26, .slice A356 x355.length c357, .int .i64 x361, .int .i64 vt390, .int .i64 17592186044416] 62 (0, 0))]) (by simp) (by simp); exact run_load rfl Try.underlying46 rfl (by kernel_rfl : _ = Value.pointer (some ⟨b33, 7, none⟩)) (hS_.cell 7)) ?_
        refine takeG [2] (n := 5) (fuel := 4) (l' := #[true, true, true, false, false, false, false]) (a' := ⟨#[.pointer (some ⟨b1, 0, none⟩), iV vid7, .agg #[iV vat8.X, iV vat8.Y, iV vat8.Z], uV, uV, .pointer (some ⟨b11, 0, none⟩), .pointer (some ⟨b15, 0, none⟩), .pointer (some ⟨b33, 0, none⟩), iV vid7, .agg #[iV vat8.X, iV vat8.Y, iV vat8.Z], .pointer (some ⟨b1, 0, none⟩), iV vt26, .agg #[iV vid7, iV vat8.X, iV vat8.Y, iV vat8.Z, iV vt26, .slice none 0 0, iV 0, iV (-17592186044416), iV 17592186044416], .pointer (some ⟨b1, 0, none⟩), iV vt72, (j353 0), (j353 1), (j353 2), (j353 3), (j353 4), (j353 5), (j353 6), (j353 7), (j353 8), (j353 9), (j353 10), (j353 11), (j353 12), (j353 13), (j353 14), (j353 15), (j353 16), (j353 17), (j353 18), (j353 19), (j353 20), (j353 21), (j353 22), (j353 23), (j353 24), (j353 25), (j353 26), (j353 27), (j353 28), .pointer (some ⟨b1, 0, none⟩), iV vt379, .bool true, .pointer (some ⟨b1, 0, none⟩), iV vt390, .pointer (some ⟨b33, 7, none⟩), .pointer (some ⟨b33, 7, none⟩), iV vt390, .pointer (some ⟨b1, 0, none⟩), uV, uV, uV, uV], []⟩) rfl (by kernel_rfl) (by kernel_rfl) (by kernel_rfl) hnp (Sg.g2 (Sx.of [[(b33, .cells #[.int .i64 vid7, .int .i64 vat8.X, .int .i64 vat8.Y, .int .i64 vat8.Z, .int .i64 vt26, .slice A356 x355.length c357, .int .i64 x361, .int .i64 vt390, .int .i64 17592186044416] 62 (0, 0))], [(b1, .cells #[.slice A4 s3.L.length c5, .int .i64 vt391] 33 (0, 0))]] (FM.le.refl _) HS406) (fun _ => St.only [] HS406 (FM.le.refl _)) (fun _ => St.only [[(b33, .cells #[.int .i64 vid7, .int .i64 vat8.X, .int .i64 vat8.Y, .int .i64 vat8.Z, .int .i64 vt26, .slice A356 x355.length c357, .int .i64 x361, .int .i64 vt390, .int .i64 17592186044416] 62 (0, 0))]] HS406 (FM.le.refl _))) ?_
        have HS407 := HS406.u1
        have hq_ := bind_some h; clear h; obtain ⟨⟨vt408, vt409⟩, hc410, h⟩ := hq_
        refine takeGE 3 (by kernel_rfl) rfl (by kernel_rfl) (does_call (f := 30) (args := #[.pointer (some ⟨b1, 0, none⟩), .int .i64 40000]) (by kernel_rfl) (spymake_Stream_Next.calls k b1 A4 c5 (⟨s3.L, vt391⟩ : S_Stream) 40000 HS407 (HR6.mono (L30.trans (L76.trans (L350.trans (L383.trans L394))))) vt408 vt409 hc410) ?_)
        rintro _ W413 ⟨f411, rfl, L412, HS414⟩
        refine ⟨_, rfl, ?_⟩
        refine ⟨(Sg.g2 (Sx.of [[(b1, .cells #[.slice A4 s3.L.length c5, .int .i64 vt409] 33 (0, 0))], [(b33, .cells #[.int .i64 vid7, .int .i64 vat8.X, .int .i64 vat8.Y, .int .i64 vat8.Z, .int .i64 vt26, .slice A356 x355.length c357, .int .i64 x361, .int .i64 vt390, .int .i64 17592186044416] 62 (0, 0))]] L412 HS414) (fun _ => St.only [[(b1, .cells #[.slice A4 s3.L.length c5, .int .i64 vt409] 33 (0, 0))]] HS414 L412) (fun hl_ => Bool.noConfusion (show true = false from hl_))), ?_⟩
        refine takeG [4, 5] (n := 3) (fuel := 1) (l' := #[true, true, true, true, true, true, false]) (a' := ⟨#[.pointer (some ⟨b1, 0, none⟩), iV vid7, .agg #[iV vat8.X, iV vat8.Y, iV vat8.Z], uV, uV, .pointer (some ⟨b11, 0, none⟩), .pointer (some ⟨b15, 0, none⟩), .pointer (some ⟨b33, 0, none⟩), iV vid7, .agg #[iV vat8.X, iV vat8.Y, iV vat8.Z], .pointer (some ⟨b1, 0, none⟩), iV vt26, .agg #[iV vid7, iV vat8.X, iV vat8.Y, iV vat8.Z, iV vt26, .slice none 0 0, iV 0, iV (-17592186044416), iV 17592186044416], .pointer (some ⟨b1, 0, none⟩), iV vt72, (j353 0), (j353 1), (j353 2), (j353 3), (j353 4), (j353 5), (j353 6), (j353 7), (j353 8), (j353 9), (j353 10), (j353 11), (j353 12), (j353 13), (j353 14), (j353 15), (j353 16), (j353 17), (j353 18), (j353 19), (j353 20), (j353 21), (j353 22), (j353 23), (j353 24), (j353 25), (j353 26), (j353 27), (j353 28), .pointer (some ⟨b1, 0, none⟩), iV vt379, .bool true, .pointer (some ⟨b1, 0, none⟩), iV vt390, .pointer (some ⟨b33, 7, none⟩), .pointer (some ⟨b33, 7, none⟩), iV vt390, .pointer (some ⟨b1, 0, none⟩), iV vt408, iV (w64 (vt390 + vt408)), .pointer (some ⟨b33, 8, none⟩), uV], []⟩) rfl (by kernel_rfl) (by kernel_rfl) (by kernel_rfl) hnp (Sg.g2 (Sx.of [[(b1, .cells #[.slice A4 s3.L.length c5, .int .i64 vt409] 33 (0, 0))], [(b33, .cells #[.int .i64 vid7, .int .i64 vat8.X, .int .i64 vat8.Y, .int .i64 vat8.Z, .int .i64 vt26, .slice A356 x355.length c357, .int .i64 x361, .int .i64 vt390, .int .i64 17592186044416] 62 (0, 0))]] L412 HS414) (fun _ => St.only [[(b1, .cells #[.slice A4 s3.L.length c5, .int .i64 vt409] 33 (0, 0))]] HS414 L412) (fun hl_ => Bool.noConfusion (show true = false from hl_))) ?_
        have HS415 := HS414.u1
        refine takeGE 6 (by kernel_rfl) rfl (by kernel_rfl) (does_store (n := 1) (vs := [.int .i64 (w64 (vt390 + vt408))]) (cs' := #[.int .i64 vid7, .int .i64 vat8.X, .int .i64 vat8.Y, .int .i64 vat8.Z, .int .i64 vt26, .slice A356 x355.length c357, .int .i64 x361, .int .i64 vt390, .int .i64 (w64 (vt390 + vt408))]) rfl (by kernel_rfl) (by kernel_rfl : _ = Value.pointer (some ⟨b33, 8, none⟩)) (by kernel_rfl : _ = Value.int .i64 (w64 (vt390 + vt408))) rfl rfl (by intro u_ hu_; simp only [List.mem_cons, List.not_mem_nil, or_false] at hu_; subst hu_; rfl) HS415 (Nat.le_of_ble_eq_true rfl) (by kernel_rfl) ?_)
        intro W416 HS417
        refine ⟨(Sg.g2 (Sx.of [[(b33, .cells #[.int .i64 vid7, .int .i64 vat8.X, .int .i64 vat8.Y, .int .i64 vat8.Z, .int .i64 vt26, .slice A356 x355.length c357, .int .i64 x361, .int .i64 vt390, .int .i64 (w64 (vt390 + vt408))] 62 (0, 0))], [(b1, .cells #[.slice A4 s3.L.length c5, .int .i64 vt409] 33 (0, 0))]] L412 HS417) (fun hl_ => Bool.noConfusion (show true = false from hl_)) (fun hl_ => Bool.noConfusion (show true = false from hl_))), ?_⟩
        refine doneG (by kernel_rfl) ?_ _
        refine hK375 _ _ ?_
        refine wp_seq_k (fun K418 hK419 => ?_)
        refine wp_region_lit ?_
        refine seqK rfl (does_run (run_loadN (n := 9) rfl Try.underlying62 rfl (by kernel_rfl) (by kernel_rfl : _ = Value.pointer (some ⟨b33, 0, none⟩)) (cs := [.int .i64 vid7, .int .i64 vat8.X, .int .i64 vat8.Y, .int .i64 vat8.Z, .int .i64 vt26, .slice A356 x355.length c357, .int .i64 x361, .int .i64 vt390, .int .i64 (w64 (vt390 + vt408))]) rfl (HS417.cells 0 9 _ rfl)) ?_)
        have HS420 := HS417.u3
        refine seqK rfl (does_store (n := 9) (vs := [.int .i64 vid7, .int .i64 vat8.X, .int .i64 vat8.Y, .int .i64 vat8.Z, .int .i64 vt26, .slice A356 x355.length c357, .int .i64 x361, .int .i64 vt390, .int .i64 (w64 (vt390 + vt408))]) (cs' := #[.int .i64 vid7, .int .i64 vat8.X, .int .i64 vat8.Y, .int .i64 vat8.Z, .int .i64 vt26, .slice A356 x355.length c357, .int .i64 x361, .int .i64 vt390, .int .i64 (w64 (vt390 + vt408))]) rfl (by kernel_rfl) (by kernel_rfl : _ = Value.pointer (some ⟨b15, 0, none⟩)) (by kernel_rfl : _ = Value.agg #[.int .i64 vid7, .int .i64 vat8.X, .int .i64 vat8.Y, .int .i64 vat8.Z, .int .i64 vt26, .slice A356 x355.length c357, .int .i64 x361, .int .i64 vt390, .int .i64 (w64 (vt390 + vt408))]) rfl rfl (by intro u_ hu_; simp only [List.mem_cons, List.not_mem_nil, or_false] at hu_; rcases hu_ with rfl | rfl | rfl | rfl | rfl | rfl | rfl | rfl | rfl <;> rfl) HS420 (Nat.le_of_ble_eq_true rfl) (by kernel_rfl) ?_)
        intro W421 HS422
        refine wpList_nil ?_
        refine hK419 _ _ ?_
        refine wp_ret ?_
        refine hret _ _ ?_
        refine ends (v := Value.agg #[.int .i64 vid7, .int .i64 vat8.X, .int .i64 vat8.Y, .int .i64 vat8.Z, .int .i64 vt26, .slice A356 x355.length c357, .int .i64 x361, .int .i64 vt390, .int .i64 (w64 (vt390 + vt408))]) (results1 (q1 := .cell 6 62) (by kernel_rfl) (resN (n := 9) (cs := [.int .i64 vid7, .int .i64 vat8.X, .int .i64 vat8.Y, .int .i64 vat8.Z, .int .i64 vt26, .slice A356 x355.length c357, .int .i64 x361, .int .i64 vt390, .int .i64 (w64 (vt390 + vt408))]) (by kernel_rfl : _ = Value.pointer (some ⟨b15, 0, none⟩)) Try.underlying62 rfl (by kernel_rfl) rfl (HS422.cells 0 9 _ rfl))) (by kernel_rfl) ?_
        have HS428 := HS422.u2
        have HS429 := HS428.u3
        have HS430 := HS429.u4
        have HS431 := HS430.u4
        have HS432 := HS431.u4
        have HS433 := HS432.drop
        have HS434 := HS433.drop
        have HS435 := HS434.drop
        injection h with h
        injection h with h0_ h
        subst h0_ h
        exact ⟨f411, A356, c357, s358, rfl, (L30.trans (L76.trans (L350.trans (L383.trans (L394.trans L412))))), HS435, (HO359.mono (L383.trans (L394.trans L412)))⟩
      · have c387 : ¬ (vt379 = 0) := c387
        refine wpRwI 46 (x := (vt379 == 0)) (v := false) (by kernel_rfl) (beq_eq_false_iff_ne.mpr c387) ?_
        refine condF (by kernel_rfl) ?_
        refine wp_skip ?_
        refine hK375 _ _ ?_
        refine wp_seq_k (fun K423 hK424 => ?_)
        refine wp_region_lit ?_
        refine seqK rfl (does_run (run_loadN (n := 9) rfl Try.underlying62 rfl (by kernel_rfl) (by kernel_rfl : _ = Value.pointer (some ⟨b33, 0, none⟩)) (cs := [.int .i64 vid7, .int .i64 vat8.X, .int .i64 vat8.Y, .int .i64 vat8.Z, .int .i64 vt26, .slice A356 x355.length c357, .int .i64 x361, .int .i64 (-17592186044416), .int .i64 17592186044416]) rfl (HS385.u2.cells 0 9 _ rfl)) ?_)
        have HS425 := HS385.u3
        refine seqK rfl (does_store (n := 9) (vs := [.int .i64 vid7, .int .i64 vat8.X, .int .i64 vat8.Y, .int .i64 vat8.Z, .int .i64 vt26, .slice A356 x355.length c357, .int .i64 x361, .int .i64 (-17592186044416), .int .i64 17592186044416]) (cs' := #[.int .i64 vid7, .int .i64 vat8.X, .int .i64 vat8.Y, .int .i64 vat8.Z, .int .i64 vt26, .slice A356 x355.length c357, .int .i64 x361, .int .i64 (-17592186044416), .int .i64 17592186044416]) rfl (by kernel_rfl) (by kernel_rfl : _ = Value.pointer (some ⟨b15, 0, none⟩)) (by kernel_rfl : _ = Value.agg #[.int .i64 vid7, .int .i64 vat8.X, .int .i64 vat8.Y, .int .i64 vat8.Z, .int .i64 vt26, .slice A356 x355.length c357, .int .i64 x361, .int .i64 (-17592186044416), .int .i64 17592186044416]) rfl rfl (by intro u_ hu_; simp only [List.mem_cons, List.not_mem_nil, or_false] at hu_; rcases hu_ with rfl | rfl | rfl | rfl | rfl | rfl | rfl | rfl | rfl <;> rfl) HS425 (Nat.le_of_ble_eq_true rfl) (by kernel_rfl) ?_)
        intro W426 HS427
        refine wpList_nil ?_
        refine hK424 _ _ ?_
        refine wp_ret ?_
        refine hret _ _ ?_
        refine ends (v := Value.agg #[.int .i64 vid7, .int .i64 vat8.X, .int .i64 vat8.Y, .int .i64 vat8.Z, .int .i64 vt26, .slice A356 x355.length c357, .int .i64 x361, .int .i64 (-17592186044416), .int .i64 17592186044416]) (results1 (q1 := .cell 6 62) (by kernel_rfl) (resN (n := 9) (cs := [.int .i64 vid7, .int .i64 vat8.X, .int .i64 vat8.Y, .int .i64 vat8.Z, .int .i64 vt26, .slice A356 x355.length c357, .int .i64 x361, .int .i64 (-17592186044416), .int .i64 17592186044416]) (by kernel_rfl : _ = Value.pointer (some ⟨b15, 0, none⟩)) Try.underlying62 rfl (by kernel_rfl) rfl (HS427.cells 0 9 _ rfl))) (by kernel_rfl) ?_
        have HS436 := HS427.u1
        have HS437 := HS436.u2
        have HS438 := HS437.u4
        have HS439 := HS438.u4
        have HS440 := HS439.u4
        have HS441 := HS440.drop
        have HS442 := HS441.drop
        have HS443 := HS442.drop
        injection h with h
        injection h with h0_ h
        subst h0_ h
        exact ⟨f382, A356, c357, s358, rfl, (L30.trans (L76.trans (L350.trans L383))), HS443, (HO359.mono L383)⟩
    clear h; have h := hv362; clear hv362
    have hq_ := ite_some h; clear h; rcases hq_ with ⟨c80, h⟩ | ⟨c80, h⟩
    · have c80 : vt72 = 0 := c80
      refine wpRwI 15 (x := (vt72 == 0)) (v := true) (by kernel_rfl) (beq_iff_eq.mpr c80) ?_
      refine condT (by kernel_rfl) ?_
      refine wp_seq_k (fun K81 hK82 => ?_)
      refine wp_seq_k (fun K83 hK84 => ?_)
      refine wp_region_lit ?_
      have hq_ := bind_some h; clear h; obtain ⟨⟨vt85, vt86⟩, hc87, h⟩ := hq_
      refine seqL1 (by kernel_rfl) ?_
      refine seqK rfl (does_call (f := 14) (args := #[.pointer (some ⟨b1, 0, none⟩), .int .i64 1, .int .i64 5]) (by kernel_rfl) (spymake_Stream_Range.calls k b1 A4 c5 (⟨s3.L, vt73⟩ : S_Stream) 1 5 HS78 (HR6.mono (L30.trans L76)) vt85 vt86 hc87) ?_)
      rintro _ W90 ⟨f88, rfl, L89, HS91⟩
      refine ⟨_, rfl, ?_⟩
      refine seqS1 (a' := ⟨#[.pointer (some ⟨b1, 0, none⟩), iV vid7, .agg #[iV vat8.X, iV vat8.Y, iV vat8.Z], uV, uV, .pointer (some ⟨b11, 0, none⟩), .pointer (some ⟨b15, 0, none⟩), .pointer (some ⟨b33, 0, none⟩), iV vid7, .agg #[iV vat8.X, iV vat8.Y, iV vat8.Z], .pointer (some ⟨b1, 0, none⟩), iV vt26, .agg #[iV vid7, iV vat8.X, iV vat8.Y, iV vat8.Z, iV vt26, .slice none 0 0, iV 0, iV (-17592186044416), iV 17592186044416], .pointer (some ⟨b1, 0, none⟩), iV vt72, .bool true, .pointer (some ⟨b1, 0, none⟩), iV vt85, iV 0, uV, uV, uV, uV, uV, uV, uV, uV, uV, uV, uV, uV, uV, uV, uV, uV, uV, uV, uV, uV, uV, uV, uV, uV, uV, uV, uV, uV, uV, uV, uV, uV, uV, uV, uV, uV, uV, uV], []⟩) (by kernel_rfl) ?_
      refine wpList_nil ?_
      refine hK84 _ _ ?_
      refine blockK (fun B92 hx93 hn94 hr95 ho96 hp97 => ?_)
      have hq_ := bind_some h; clear h; obtain ⟨o156, hv233, h⟩ := hq_
      have J234 : ∀ (f221 : FM) (A228 : Option Addr) (c229 : Nat) (s230 : Seg) (x226 : Int) (x227 : List Int) (j225 : Nat → Value) (W223 : World) (a_ : Act), FM.le f88 f221 → some ((x226, x227)) = some o156 → St t W223 f221 (s230 :: [(b1, .cells #[.slice A4 s3.L.length c5, .int .i64 x226] 33 (0, 0))] :: [(b33, .cells #[.int .i64 vid7, .int .i64 vat8.X, .int .i64 vat8.Y, .int .i64 vat8.Z, .int .i64 vt26, .slice A228 x227.length c229, .int .i64 0, .int .i64 (-17592186044416), .int .i64 17592186044416] 62 (0, 0))] :: [(b15, .cells #[.int .i64 0, .int .i64 0, .int .i64 0, .int .i64 0, .int .i64 0, .slice none 0 0, .int .i64 0, .int .i64 0, .int .i64 0] 62 (0, 0))] :: [(b11, .cells #[.int .i64 vat8.X, .int .i64 vat8.Y, .int .i64 vat8.Z] 23 (0, 0))] :: H) → Own (tInt .i64) 34 f221 A228 c229 s230 x227 → a_ = ⟨#[.pointer (some ⟨b1, 0, none⟩), iV vid7, .agg #[iV vat8.X, iV vat8.Y, iV vat8.Z], uV, uV, .pointer (some ⟨b11, 0, none⟩), .pointer (some ⟨b15, 0, none⟩), .pointer (some ⟨b33, 0, none⟩), iV vid7, .agg #[iV vat8.X, iV vat8.Y, iV vat8.Z], .pointer (some ⟨b1, 0, none⟩), iV vt26, .agg #[iV vid7, iV vat8.X, iV vat8.Y, iV vat8.Z, iV vt26, .slice none 0 0, iV 0, iV (-17592186044416), iV 17592186044416], .pointer (some ⟨b1, 0, none⟩), iV vt72, .bool true, .pointer (some ⟨b1, 0, none⟩), iV vt85, (j225 0), (j225 1), (j225 2), (j225 3), (j225 4), (j225 5), (j225 6), (j225 7), (j225 8), (j225 9), (j225 10), (j225 11), (j225 12), (j225 13), uV, uV, uV, uV, uV, uV, uV, uV, uV, uV, uV, uV, uV, uV, uV, uV, uV, uV, uV, uV, uV, uV, uV, uV, uV], []⟩ → K81 a_ W223 := by
        intro f221 A228 c229 s230 x226 x227 j225 W223 a_ L222 hj235 HS224 HO231 hfr_; subst hfr_
        injection hj235 with hj235; subst hj235; try dsimp only at h
        refine hK82 _ _ ?_
        have HS243 := HS224.u4
        have HS244 := HS243.u4
        have HS245 := HS244.u2
        have HS246 := HS245.u4
        have HS247 := HS246.u4
        refine heldG (S := Sg t f221 (s230 :: [(b15, .cells #[.int .i64 0, .int .i64 0, .int .i64 0, .int .i64 0, .int .i64 0, .slice none 0 0, .int .i64 0, .int .i64 0, .int .i64 0] 62 (0, 0))] :: [(b11, .cells #[.int .i64 vat8.X, .int .i64 vat8.Y, .int .i64 vat8.Z] 23 (0, 0))] :: H) [(6, [(b1, .cells #[.slice A4 s3.L.length c5, .int .i64 x226] 33 (0, 0))]), (12, [(b33, .cells #[.int .i64 vid7, .int .i64 vat8.X, .int .i64 vat8.Y, .int .i64 vat8.Z, .int .i64 vt26, .slice A228 x227.length c229, .int .i64 0, .int .i64 (-17592186044416), .int .i64 17592186044416] 62 (0, 0))])]) (n := 13) (by kernel_rfl) rfl HS247 ?_
        intro W248 HS249
        refine takeG [0] (n := 13) (fuel := 12) (l' := #[true, false, false, false, false, false, false, false, false, false, false, false, false]) (a' := ⟨#[.pointer (some ⟨b1, 0, none⟩), iV vid7, .agg #[iV vat8.X, iV vat8.Y, iV vat8.Z], uV, uV, .pointer (some ⟨b11, 0, none⟩), .pointer (some ⟨b15, 0, none⟩), .pointer (some ⟨b33, 0, none⟩), iV vid7, .agg #[iV vat8.X, iV vat8.Y, iV vat8.Z], .pointer (some ⟨b1, 0, none⟩), iV vt26, .agg #[iV vid7, iV vat8.X, iV vat8.Y, iV vat8.Z, iV vt26, .slice none 0 0, iV 0, iV (-17592186044416), iV 17592186044416], .pointer (some ⟨b1, 0, none⟩), iV vt72, .bool true, .pointer (some ⟨b1, 0, none⟩), iV vt85, (j225 0), (j225 1), (j225 2), (j225 3), (j225 4), (j225 5), (j225 6), (j225 7), (j225 8), (j225 9), (j225 10), (j225 11), (j225 12), (j225 13), .pointer (some ⟨b33, 5, none⟩), uV, uV, uV, uV, uV, uV, uV, uV, uV, uV, uV, uV, uV, uV, uV, uV, uV, uV, uV, uV, uV, uV, uV, uV], []⟩) rfl (by kernel_rfl) (by kernel_rfl) (by kernel_rfl) hnp (Sg.g2 (Sx.of [[(b1, .cells #[.slice A4 s3.L.length c5, .int .i64 x226] 33 (0, 0))], [(b33, .cells #[.int .i64 vid7, .int .i64 vat8.X, .int .i64 vat8.Y, .int .i64 vat8.Z, .int .i64 vt26, .slice A228 x227.length c229, .int .i64 0, .int .i64 (-17592186044416), .int .i64 17592186044416] 62 (0, 0))]] (FM.le.refl _) HS249) (fun _ => St.only [] HS249 (FM.le.refl _)) (fun _ => St.only [[(b1, .cells #[.slice A4 s3.L.length c5, .int .i64 x226] 33 (0, 0))]] HS249 (FM.le.refl _))) ?_
        refine takeGQ 1 [12] rfl (by kernel_rfl) (by kernel_rfl) (by kernel_rfl) (by kernel_rfl) (by kernel_rfl) (by kernel_rfl) hnp (Sg.g2 (Sx.of [[(b1, .cells #[.slice A4 s3.L.length c5, .int .i64 x226] 33 (0, 0))], [(b33, .cells #[.int .i64 vid7, .int .i64 vat8.X, .int .i64 vat8.Y, .int .i64 vat8.Z, .int .i64 vt26, .slice A228 x227.length c229, .int .i64 0, .int .i64 (-17592186044416), .int .i64 17592186044416] 62 (0, 0))]] (FM.le.refl _) HS249) (fun _ => St.only [] HS249 (FM.le.refl _)) (fun _ => St.only [[(b1, .cells #[.slice A4 s3.L.length c5, .int .i64 x226] 33 (0, 0))]] HS249 (FM.le.refl _))) (fun w_ hw_ => by obtain ⟨g_, hl_, hS_⟩ := hw_.seg (j := 12) (s := [(b33, .cells #[.int .i64 vid7, .int .i64 vat8.X, .int .i64 vat8.Y, .int .i64 vat8.Z, .int .i64 vt26, .slice A228 x227.length c229, .int .i64 0, .int .i64 (-17592186044416), .int .i64 17592186044416] 62 (0, 0))]) (by simp) (by simp); exact run_load rfl Try.underlying60 rfl (by kernel_rfl : _ = Value.pointer (some ⟨b33, 5, none⟩)) (hS_.cell 5)) ?_
        have hq_ := bind_some h; clear h; obtain ⟨⟨vt257, vt258⟩, hc259, h⟩ := hq_
        have hq_ := guard_some h; clear h; obtain ⟨c264, h⟩ := hq_
        have c264 : 0 ≤ vt257 := c264
        have hq_ := guard_some h; clear h; obtain ⟨c276, h⟩ := hq_
        have c276 : vt257 < (([3, 5000, 1073741824] : List Int).length : Int) := c276
        have hq_ := bind_some h; clear h; obtain ⟨⟨vt291, vt292⟩, hc293, h⟩ := hq_
        refine takeG [2, 3, 5] (n := 11) (fuel := 8) (l' := #[true, true, true, true, false, true, false, false, false, false, false, false, false]) (a' := ⟨#[.pointer (some ⟨b1, 0, none⟩), iV vid7, .agg #[iV vat8.X, iV vat8.Y, iV vat8.Z], uV, uV, .pointer (some ⟨b11, 0, none⟩), .pointer (some ⟨b15, 0, none⟩), .pointer (some ⟨b33, 0, none⟩), iV vid7, .agg #[iV vat8.X, iV vat8.Y, iV vat8.Z], .pointer (some ⟨b1, 0, none⟩), iV vt26, .agg #[iV vid7, iV vat8.X, iV vat8.Y, iV vat8.Z, iV vt26, .slice none 0 0, iV 0, iV (-17592186044416), iV 17592186044416], .pointer (some ⟨b1, 0, none⟩), iV vt72, .bool true, .pointer (some ⟨b1, 0, none⟩), iV vt85, (j225 0), (j225 1), (j225 2), (j225 3), (j225 4), (j225 5), (j225 6), (j225 7), (j225 8), (j225 9), (j225 10), (j225 11), (j225 12), (j225 13), .pointer (some ⟨b33, 5, none⟩), .slice A228 x227.length c229, iV (x227.length : Int), .pointer (some ⟨b1, 0, none⟩), uV, .pointer (some ⟨b1, 0, none⟩), uV, uV, uV, uV, uV, uV, uV, uV, uV, uV, uV, uV, uV, uV, uV, uV, uV, uV, uV], []⟩) rfl (by kernel_rfl) (by kernel_rfl) (by kernel_rfl) hnp (Sg.g2 (Sx.of [[(b1, .cells #[.slice A4 s3.L.length c5, .int .i64 x226] 33 (0, 0))], [(b33, .cells #[.int .i64 vid7, .int .i64 vat8.X, .int .i64 vat8.Y, .int .i64 vat8.Z, .int .i64 vt26, .slice A228 x227.length c229, .int .i64 0, .int .i64 (-17592186044416), .int .i64 17592186044416] 62 (0, 0))]] (FM.le.refl _) HS249) (fun _ => St.only [] HS249 (FM.le.refl _)) (fun _ => St.only [[(b1, .cells #[.slice A4 s3.L.length c5, .int .i64 x226] 33 (0, 0))]] HS249 (FM.le.refl _))) ?_
        refine withR #[true, true, true, true, true, true, true, true, true, true, true, true, true] ?_
        intro R301 hR302 hR303
        have J304 : ∀ (b277 : Nat) (s279 : Seg) (f284 : FM) (f294 : FM) (W305 : World) (a_ : Act), Own (tInt .i64) 3 f221 (some ⟨b277, 0, none⟩) 3 s279 ([3, 5000, 1073741824] : List Int) → FM.le f221 f284 → FM.le f284 f294 → St t W305 f294 ([(b33, .cells #[.int .i64 vid7, .int .i64 vat8.X, .int .i64 vat8.Y, .int .i64 vat8.Z, .int .i64 vt26, .slice A228 x227.length c229, .int .i64 (w64 ((x227.length : Int) * vt291)), .int .i64 (-17592186044416), .int .i64 17592186044416] 62 (0, 0))] :: [(b1, .cells #[.slice A4 s3.L.length c5, .int .i64 vt292] 33 (0, 0))] :: s279 :: s230 :: [(b15, .cells #[.int .i64 0, .int .i64 0, .int .i64 0, .int .i64 0, .int .i64 0, .slice none 0 0, .int .i64 0, .int .i64 0, .int .i64 0] 62 (0, 0))] :: [(b11, .cells #[.int .i64 vat8.X, .int .i64 vat8.Y, .int .i64 vat8.Z] 23 (0, 0))] :: H) → a_ = ⟨#[.pointer (some ⟨b1, 0, none⟩), iV vid7, .agg #[iV vat8.X, iV vat8.Y, iV vat8.Z], uV, uV, .pointer (some ⟨b11, 0, none⟩), .pointer (some ⟨b15, 0, none⟩), .pointer (some ⟨b33, 0, none⟩), iV vid7, .agg #[iV vat8.X, iV vat8.Y, iV vat8.Z], .pointer (some ⟨b1, 0, none⟩), iV vt26, .agg #[iV vid7, iV vat8.X, iV vat8.Y, iV vat8.Z, iV vt26, .slice none 0 0, iV 0, iV (-17592186044416), iV 17592186044416], .pointer (some ⟨b1, 0, none⟩), iV vt72, .bool true, .pointer (some ⟨b1, 0, none⟩), iV vt85, (j225 0), (j225 1), (j225 2), (j225 3), (j225 4), (j225 5), (j225 6), (j225 7), (j225 8), (j225 9), (j225 10), (j225 11), (j225 12), (j225 13), .pointer (some ⟨b33, 5, none⟩), .slice A228 x227.length c229, iV (x227.length : Int), .pointer (some ⟨b1, 0, none⟩), .slice (some ⟨b277, 0, none⟩) ([3, 5000, 1073741824] : List Int).length 3, .pointer (some ⟨b1, 0, none⟩), iV vt257, .pointer (some ⟨b277, 0 + (vt257 : Int).toNat * 1, none⟩), iV (rd ([3, 5000, 1073741824] : List Int) vt257), iV vt291, iV (w64 ((x227.length : Int) * vt291)), .pointer (some ⟨b33, 6, none⟩), uV, uV, uV, uV, uV, uV, uV, uV, uV, uV, uV, uV, uV], []⟩ → R301 a_ W305 := by
          intro b277 s279 f284 f294 W305 a_ HO281 L285 L295 HS306 hfr_; subst hfr_
          refine hR302 _ _ ?_
          refine doneG (by kernel_rfl) ?_ _
          have HS365 := HS306.u5
          have HS366 := HS365.u5
          have HS367 := HS366.u2
          have HS368 := HS367.u3
          have HS369 := HS368.u5
          have HS370 := HS369.u5
          have HS371 := HS370.drop
          exact J363 f294 A228 c229 s230 vt292 x227 (w64 ((x227.length : Int) * vt291)) (fun i_ => [Value.bool true, Value.pointer (some ⟨b1, 0, none⟩), Value.int .i64 vt85, (j225 0), (j225 1), (j225 2), (j225 3), (j225 4), (j225 5), (j225 6), (j225 7), (j225 8), (j225 9), (j225 10), (j225 11), (j225 12), (j225 13), Value.pointer (some ⟨b33, 5, none⟩), Value.slice A228 x227.length c229, Value.int .i64 (x227.length : Int), Value.pointer (some ⟨b1, 0, none⟩), Value.slice (some ⟨b277, 0, none⟩) ([3, 5000, 1073741824] : List Int).length 3, Value.pointer (some ⟨b1, 0, none⟩), Value.int .i64 vt257, Value.pointer (some ⟨b277, 0 + (vt257 : Int).toNat * 1, none⟩), Value.int .i64 (rd ([3, 5000, 1073741824] : List Int) vt257), Value.int .i64 vt291, Value.int .i64 (w64 ((x227.length : Int) * vt291)), Value.pointer (some ⟨b33, 6, none⟩)].getD i_ undef) W305 _ (L89.trans (L222.trans (L285.trans L295))) h HS371 (HO231.mono (L285.trans L295)) (by kernel_rfl)
        refine takeEither 4 6 (by kernel_rfl) rfl rfl rfl rfl ?_ ?_
        · refine does_lit (e := (tInt .i64)) (E := 3) (vs := #[(0, Value.int .i64 3), (1, Value.int .i64 5000), (2, Value.int .i64 1073741824)]) (cs := #[.int .i64 3, .int .i64 5000, .int .i64 1073741824]) (xs := ([3, 5000, 1073741824] : List Int)) rfl Try.underlying30 (by kernel_rfl) (by kernel_rfl) ⟨[.int .i64 3], _, rfl, rfl, ⟨[.int .i64 5000], _, rfl, rfl, ⟨[.int .i64 1073741824], _, rfl, rfl, rfl⟩⟩⟩ rfl HS249 ?_ (by decide)
          intro b307 W308 s309 HS310 _ HO311
          refine ⟨(Sg.g2 (Sx.of [s309, [(b1, .cells #[.slice A4 s3.L.length c5, .int .i64 x226] 33 (0, 0))], [(b33, .cells #[.int .i64 vid7, .int .i64 vat8.X, .int .i64 vat8.Y, .int .i64 vat8.Z, .int .i64 vt26, .slice A228 x227.length c229, .int .i64 0, .int .i64 (-17592186044416), .int .i64 17592186044416] 62 (0, 0))]] (FM.le.refl _) HS310) (fun _ => St.only [s309] HS310 (FM.le.refl _)) (fun _ => St.only [s309, [(b1, .cells #[.slice A4 s3.L.length c5, .int .i64 x226] 33 (0, 0))]] HS310 (FM.le.refl _))), ?_⟩
          have HS313 := HS310.u1
          refine takeGE 6 (by kernel_rfl) rfl (by kernel_rfl) (does_call (f := 30) (args := #[.pointer (some ⟨b1, 0, none⟩), .int .i64 3]) (by kernel_rfl) (spymake_Stream_Next.calls k b1 A4 c5 (⟨s3.L, x226⟩ : S_Stream) 3 HS313 (HR6.mono (L30.trans (L76.trans (L89.trans L222)))) vt257 vt258 hc259) ?_)
          rintro _ W316 ⟨f314, rfl, L315, HS317⟩
          refine ⟨_, rfl, ?_⟩
          refine ⟨(Sg.g2 (Sx.of [[(b1, .cells #[.slice A4 s3.L.length c5, .int .i64 vt258] 33 (0, 0))], s309, [(b33, .cells #[.int .i64 vid7, .int .i64 vat8.X, .int .i64 vat8.Y, .int .i64 vat8.Z, .int .i64 vt26, .slice A228 x227.length c229, .int .i64 0, .int .i64 (-17592186044416), .int .i64 17592186044416] 62 (0, 0))]] L315 HS317) (fun hl_ => Bool.noConfusion (show true = false from hl_)) (fun _ => St.only [[(b1, .cells #[.slice A4 s3.L.length c5, .int .i64 vt258] 33 (0, 0))], s309] HS317 L315)), ?_⟩
          obtain ⟨cs318, hr319, hc320⟩ := (HO311.mono L315).at' (i := vt257) c264 c276
          obtain rfl := hr319
          refine takeGQ 7 [] rfl (by kernel_rfl) (by kernel_rfl) (by kernel_rfl) (by kernel_rfl) (by kernel_rfl) (by kernel_rfl) hnp (Sg.g2 (Sx.of [[(b1, .cells #[.slice A4 s3.L.length c5, .int .i64 vt258] 33 (0, 0))], s309, [(b33, .cells #[.int .i64 vid7, .int .i64 vat8.X, .int .i64 vat8.Y, .int .i64 vat8.Z, .int .i64 vt26, .slice A228 x227.length c229, .int .i64 0, .int .i64 (-17592186044416), .int .i64 17592186044416] 62 (0, 0))]] L315 HS317) (fun hl_ => Bool.noConfusion (show true = false from hl_)) (fun _ => St.only [[(b1, .cells #[.slice A4 s3.L.length c5, .int .i64 vt258] 33 (0, 0))], s309] HS317 L315)) (fun w_ hw_ => by obtain ⟨g_, hl_, hS_⟩ := hw_.st; exact run_index (sz := 1) rfl Try.underlying30 (by kernel_rfl) (by kernel_rfl : _ = Value.slice (some ⟨b307, 0, none⟩) ([3, 5000, 1073741824] : List Int).length 3) (by kernel_rfl : _ = Value.int .i64 vt257) c264 c276 w_) ?_
          refine takeGE 8 (by kernel_rfl) rfl (by kernel_rfl) (does_run (run_load rfl Try.underlying3 rfl (by kernel_rfl : _ = Value.pointer (some ⟨b307, 0 + (vt257 : Int).toNat * 1, none⟩)) ((hc320 HS317.u1) 0 (by decide))) ?_)
          refine ⟨(Sg.g2 (Sx.of [[(b1, .cells #[.slice A4 s3.L.length c5, .int .i64 vt258] 33 (0, 0))], s309, [(b33, .cells #[.int .i64 vid7, .int .i64 vat8.X, .int .i64 vat8.Y, .int .i64 vat8.Z, .int .i64 vt26, .slice A228 x227.length c229, .int .i64 0, .int .i64 (-17592186044416), .int .i64 17592186044416] 62 (0, 0))]] L315 HS317) (fun hl_ => Bool.noConfusion (show true = false from hl_)) (fun _ => St.only [[(b1, .cells #[.slice A4 s3.L.length c5, .int .i64 vt258] 33 (0, 0))], s309] HS317 L315)), ?_⟩
          refine takeGE 9 (by kernel_rfl) rfl (by kernel_rfl) (does_call (f := 14) (args := #[.pointer (some ⟨b1, 0, none⟩), .int .i64 1, .int .i64 (rd ([3, 5000, 1073741824] : List Int) vt257)]) (by kernel_rfl) (spymake_Stream_Range.calls k b1 A4 c5 (⟨s3.L, vt258⟩ : S_Stream) 1 (rd ([3, 5000, 1073741824] : List Int) vt257) HS317 (HR6.mono (L30.trans (L76.trans (L89.trans (L222.trans L315))))) vt291 vt292 hc293) ?_)
          rintro _ W323 ⟨f321, rfl, L322, HS324⟩
          refine ⟨_, rfl, ?_⟩
          refine ⟨(Sg.g2 (Sx.of [[(b1, .cells #[.slice A4 s3.L.length c5, .int .i64 vt292] 33 (0, 0))], s309, [(b33, .cells #[.int .i64 vid7, .int .i64 vat8.X, .int .i64 vat8.Y, .int .i64 vat8.Z, .int .i64 vt26, .slice A228 x227.length c229, .int .i64 0, .int .i64 (-17592186044416), .int .i64 17592186044416] 62 (0, 0))]] (L315.trans L322) HS324) (fun hl_ => Bool.noConfusion (show true = false from hl_)) (fun _ => St.only [[(b1, .cells #[.slice A4 s3.L.length c5, .int .i64 vt292] 33 (0, 0))], s309] HS324 (L315.trans L322))), ?_⟩
          refine takeG [10, 11] (n := 3) (fuel := 1) (l' := #[true, true, true, true, true, true, true, true, true, true, true, true, false]) (a' := ⟨#[.pointer (some ⟨b1, 0, none⟩), iV vid7, .agg #[iV vat8.X, iV vat8.Y, iV vat8.Z], uV, uV, .pointer (some ⟨b11, 0, none⟩), .pointer (some ⟨b15, 0, none⟩), .pointer (some ⟨b33, 0, none⟩), iV vid7, .agg #[iV vat8.X, iV vat8.Y, iV vat8.Z], .pointer (some ⟨b1, 0, none⟩), iV vt26, .agg #[iV vid7, iV vat8.X, iV vat8.Y, iV vat8.Z, iV vt26, .slice none 0 0, iV 0, iV (-17592186044416), iV 17592186044416], .pointer (some ⟨b1, 0, none⟩), iV vt72, .bool true, .pointer (some ⟨b1, 0, none⟩), iV vt85, (j225 0), (j225 1), (j225 2), (j225 3), (j225 4), (j225 5), (j225 6), (j225 7), (j225 8), (j225 9), (j225 10), (j225 11), (j225 12), (j225 13), .pointer (some ⟨b33, 5, none⟩), .slice A228 x227.length c229, iV (x227.length : Int), .pointer (some ⟨b1, 0, none⟩), .slice (some ⟨b307, 0, none⟩) ([3, 5000, 1073741824] : List Int).length 3, .pointer (some ⟨b1, 0, none⟩), iV vt257, .pointer (some ⟨b307, 0 + (vt257 : Int).toNat * 1, none⟩), iV (rd ([3, 5000, 1073741824] : List Int) vt257), iV vt291, iV (w64 ((x227.length : Int) * vt291)), .pointer (some ⟨b33, 6, none⟩), uV, uV, uV, uV, uV, uV, uV, uV, uV, uV, uV, uV, uV], []⟩) rfl (by kernel_rfl) (by kernel_rfl) (by kernel_rfl) hnp (Sg.g2 (Sx.of [[(b1, .cells #[.slice A4 s3.L.length c5, .int .i64 vt292] 33 (0, 0))], s309, [(b33, .cells #[.int .i64 vid7, .int .i64 vat8.X, .int .i64 vat8.Y, .int .i64 vat8.Z, .int .i64 vt26, .slice A228 x227.length c229, .int .i64 0, .int .i64 (-17592186044416), .int .i64 17592186044416] 62 (0, 0))]] (L315.trans L322) HS324) (fun hl_ => Bool.noConfusion (show true = false from hl_)) (fun _ => St.only [[(b1, .cells #[.slice A4 s3.L.length c5, .int .i64 vt292] 33 (0, 0))], s309] HS324 (L315.trans L322))) ?_
          have HS325 := HS324.u2
          refine takeGE 12 (by kernel_rfl) rfl (by kernel_rfl) (does_store (n := 1) (vs := [.int .i64 (w64 ((x227.length : Int) * vt291))]) (cs' := #[.int .i64 vid7, .int .i64 vat8.X, .int .i64 vat8.Y, .int .i64 vat8.Z, .int .i64 vt26, .slice A228 x227.length c229, .int .i64 (w64 ((x227.length : Int) * vt291)), .int .i64 (-17592186044416), .int .i64 17592186044416]) rfl (by kernel_rfl) (by kernel_rfl : _ = Value.pointer (some ⟨b33, 6, none⟩)) (by kernel_rfl : _ = Value.int .i64 (w64 ((x227.length : Int) * vt291))) rfl rfl (by intro u_ hu_; simp only [List.mem_cons, List.not_mem_nil, or_false] at hu_; subst hu_; rfl) HS325 (Nat.le_of_ble_eq_true rfl) (by kernel_rfl) ?_)
          intro W326 HS327
          refine ⟨(Sg.g2 (Sx.of [[(b33, .cells #[.int .i64 vid7, .int .i64 vat8.X, .int .i64 vat8.Y, .int .i64 vat8.Z, .int .i64 vt26, .slice A228 x227.length c229, .int .i64 (w64 ((x227.length : Int) * vt291)), .int .i64 (-17592186044416), .int .i64 17592186044416] 62 (0, 0))], [(b1, .cells #[.slice A4 s3.L.length c5, .int .i64 vt292] 33 (0, 0))], s309] (L315.trans L322) HS327) (fun hl_ => Bool.noConfusion (show true = false from hl_)) (fun hl_ => Bool.noConfusion (show true = false from hl_))), ?_⟩
          refine hR303 _ _ ?_
          exact J304 b307 s309 f314 f321 W326 _ HO311 L315 L322 HS327 (by kernel_rfl)
        · refine does_call (f := 30) (args := #[.pointer (some ⟨b1, 0, none⟩), .int .i64 3]) (by kernel_rfl) (spymake_Stream_Next.calls k b1 A4 c5 (⟨s3.L, x226⟩ : S_Stream) 3 HS249 (HR6.mono (L30.trans (L76.trans (L89.trans L222)))) vt257 vt258 hc259) ?_
          rintro _ W330 ⟨f328, rfl, L329, HS331⟩
          refine ⟨_, rfl, ?_⟩
          refine ⟨(Sg.g2 (Sx.of [[(b1, .cells #[.slice A4 s3.L.length c5, .int .i64 vt258] 33 (0, 0))], [(b33, .cells #[.int .i64 vid7, .int .i64 vat8.X, .int .i64 vat8.Y, .int .i64 vat8.Z, .int .i64 vt26, .slice A228 x227.length c229, .int .i64 0, .int .i64 (-17592186044416), .int .i64 17592186044416] 62 (0, 0))]] L329 HS331) (fun hl_ => Bool.noConfusion (show true = false from hl_)) (fun _ => St.only [[(b1, .cells #[.slice A4 s3.L.length c5, .int .i64 vt258] 33 (0, 0))]] HS331 L329)), ?_⟩
          refine takeGE 4 (by kernel_rfl) rfl (by kernel_rfl) (does_lit (e := (tInt .i64)) (E := 3) (vs := #[(0, Value.int .i64 3), (1, Value.int .i64 5000), (2, Value.int .i64 1073741824)]) (cs := #[.int .i64 3, .int .i64 5000, .int .i64 1073741824]) (xs := ([3, 5000, 1073741824] : List Int)) rfl Try.underlying30 (by kernel_rfl) (by kernel_rfl) ⟨[.int .i64 3], _, rfl, rfl, ⟨[.int .i64 5000], _, rfl, rfl, ⟨[.int .i64 1073741824], _, rfl, rfl, rfl⟩⟩⟩ rfl HS331 ?_ (by decide))
          intro b332 W333 s334 HS335 _ HO336
          refine ⟨(Sg.g2 (Sx.of [s334, [(b1, .cells #[.slice A4 s3.L.length c5, .int .i64 vt258] 33 (0, 0))], [(b33, .cells #[.int .i64 vid7, .int .i64 vat8.X, .int .i64 vat8.Y, .int .i64 vat8.Z, .int .i64 vt26, .slice A228 x227.length c229, .int .i64 0, .int .i64 (-17592186044416), .int .i64 17592186044416] 62 (0, 0))]] L329 HS335) (fun hl_ => Bool.noConfusion (show true = false from hl_)) (fun _ => St.only [s334, [(b1, .cells #[.slice A4 s3.L.length c5, .int .i64 vt258] 33 (0, 0))]] HS335 L329)), ?_⟩
          obtain ⟨cs338, hr339, hc340⟩ := HO336.at' (i := vt257) c264 c276
          obtain rfl := hr339
          refine takeGQ 7 [] rfl (by kernel_rfl) (by kernel_rfl) (by kernel_rfl) (by kernel_rfl) (by kernel_rfl) (by kernel_rfl) hnp (Sg.g2 (Sx.of [s334, [(b1, .cells #[.slice A4 s3.L.length c5, .int .i64 vt258] 33 (0, 0))], [(b33, .cells #[.int .i64 vid7, .int .i64 vat8.X, .int .i64 vat8.Y, .int .i64 vat8.Z, .int .i64 vt26, .slice A228 x227.length c229, .int .i64 0, .int .i64 (-17592186044416), .int .i64 17592186044416] 62 (0, 0))]] L329 HS335) (fun hl_ => Bool.noConfusion (show true = false from hl_)) (fun _ => St.only [s334, [(b1, .cells #[.slice A4 s3.L.length c5, .int .i64 vt258] 33 (0, 0))]] HS335 L329)) (fun w_ hw_ => by obtain ⟨g_, hl_, hS_⟩ := hw_.st; exact run_index (sz := 1) rfl Try.underlying30 (by kernel_rfl) (by kernel_rfl : _ = Value.slice (some ⟨b332, 0, none⟩) ([3, 5000, 1073741824] : List Int).length 3) (by kernel_rfl : _ = Value.int .i64 vt257) c264 c276 w_) ?_
          refine takeGE 8 (by kernel_rfl) rfl (by kernel_rfl) (does_run (run_load rfl Try.underlying3 rfl (by kernel_rfl : _ = Value.pointer (some ⟨b332, 0 + (vt257 : Int).toNat * 1, none⟩)) ((hc340 HS335) 0 (by decide))) ?_)
          refine ⟨(Sg.g2 (Sx.of [s334, [(b1, .cells #[.slice A4 s3.L.length c5, .int .i64 vt258] 33 (0, 0))], [(b33, .cells #[.int .i64 vid7, .int .i64 vat8.X, .int .i64 vat8.Y, .int .i64 vat8.Z, .int .i64 vt26, .slice A228 x227.length c229, .int .i64 0, .int .i64 (-17592186044416), .int .i64 17592186044416] 62 (0, 0))]] L329 HS335) (fun hl_ => Bool.noConfusion (show true = false from hl_)) (fun _ => St.only [s334, [(b1, .cells #[.slice A4 s3.L.length c5, .int .i64 vt258] 33 (0, 0))]] HS335 L329)), ?_⟩
          have HS341 := HS335.u1
          refine takeGE 9 (by kernel_rfl) rfl (by kernel_rfl) (does_call (f := 14) (args := #[.pointer (some ⟨b1, 0, none⟩), .int .i64 1, .int .i64 (rd ([3, 5000, 1073741824] : List Int) vt257)]) (by kernel_rfl) (spymake_Stream_Range.calls k b1 A4 c5 (⟨s3.L, vt258⟩ : S_Stream) 1 (rd ([3, 5000, 1073741824] : List Int) vt257) HS341 (HR6.mono (L30.trans (L76.trans (L89.trans (L222.trans L329))))) vt291 vt292 hc293) ?_)
          rintro _ W344 ⟨f342, rfl, L343, HS345⟩
          refine ⟨_, rfl, ?_⟩
          refine ⟨(Sg.g2 (Sx.of [[(b1, .cells #[.slice A4 s3.L.length c5, .int .i64 vt292] 33 (0, 0))], s334, [(b33, .cells #[.int .i64 vid7, .int .i64 vat8.X, .int .i64 vat8.Y, .int .i64 vat8.Z, .int .i64 vt26, .slice A228 x227.length c229, .int .i64 0, .int .i64 (-17592186044416), .int .i64 17592186044416] 62 (0, 0))]] (L329.trans L343) HS345) (fun hl_ => Bool.noConfusion (show true = false from hl_)) (fun _ => St.only [[(b1, .cells #[.slice A4 s3.L.length c5, .int .i64 vt292] 33 (0, 0))], s334] HS345 (L329.trans L343))), ?_⟩
          refine takeG [10, 11] (n := 3) (fuel := 1) (l' := #[true, true, true, true, true, true, true, true, true, true, true, true, false]) (a' := ⟨#[.pointer (some ⟨b1, 0, none⟩), iV vid7, .agg #[iV vat8.X, iV vat8.Y, iV vat8.Z], uV, uV, .pointer (some ⟨b11, 0, none⟩), .pointer (some ⟨b15, 0, none⟩), .pointer (some ⟨b33, 0, none⟩), iV vid7, .agg #[iV vat8.X, iV vat8.Y, iV vat8.Z], .pointer (some ⟨b1, 0, none⟩), iV vt26, .agg #[iV vid7, iV vat8.X, iV vat8.Y, iV vat8.Z, iV vt26, .slice none 0 0, iV 0, iV (-17592186044416), iV 17592186044416], .pointer (some ⟨b1, 0, none⟩), iV vt72, .bool true, .pointer (some ⟨b1, 0, none⟩), iV vt85, (j225 0), (j225 1), (j225 2), (j225 3), (j225 4), (j225 5), (j225 6), (j225 7), (j225 8), (j225 9), (j225 10), (j225 11), (j225 12), (j225 13), .pointer (some ⟨b33, 5, none⟩), .slice A228 x227.length c229, iV (x227.length : Int), .pointer (some ⟨b1, 0, none⟩), .slice (some ⟨b332, 0, none⟩) ([3, 5000, 1073741824] : List Int).length 3, .pointer (some ⟨b1, 0, none⟩), iV vt257, .pointer (some ⟨b332, 0 + (vt257 : Int).toNat * 1, none⟩), iV (rd ([3, 5000, 1073741824] : List Int) vt257), iV vt291, iV (w64 ((x227.length : Int) * vt291)), .pointer (some ⟨b33, 6, none⟩), uV, uV, uV, uV, uV, uV, uV, uV, uV, uV, uV, uV, uV], []⟩) rfl (by kernel_rfl) (by kernel_rfl) (by kernel_rfl) hnp (Sg.g2 (Sx.of [[(b1, .cells #[.slice A4 s3.L.length c5, .int .i64 vt292] 33 (0, 0))], s334, [(b33, .cells #[.int .i64 vid7, .int .i64 vat8.X, .int .i64 vat8.Y, .int .i64 vat8.Z, .int .i64 vt26, .slice A228 x227.length c229, .int .i64 0, .int .i64 (-17592186044416), .int .i64 17592186044416] 62 (0, 0))]] (L329.trans L343) HS345) (fun hl_ => Bool.noConfusion (show true = false from hl_)) (fun _ => St.only [[(b1, .cells #[.slice A4 s3.L.length c5, .int .i64 vt292] 33 (0, 0))], s334] HS345 (L329.trans L343))) ?_
          have HS346 := HS345.u2
          refine takeGE 12 (by kernel_rfl) rfl (by kernel_rfl) (does_store (n := 1) (vs := [.int .i64 (w64 ((x227.length : Int) * vt291))]) (cs' := #[.int .i64 vid7, .int .i64 vat8.X, .int .i64 vat8.Y, .int .i64 vat8.Z, .int .i64 vt26, .slice A228 x227.length c229, .int .i64 (w64 ((x227.length : Int) * vt291)), .int .i64 (-17592186044416), .int .i64 17592186044416]) rfl (by kernel_rfl) (by kernel_rfl : _ = Value.pointer (some ⟨b33, 6, none⟩)) (by kernel_rfl : _ = Value.int .i64 (w64 ((x227.length : Int) * vt291))) rfl rfl (by intro u_ hu_; simp only [List.mem_cons, List.not_mem_nil, or_false] at hu_; subst hu_; rfl) HS346 (Nat.le_of_ble_eq_true rfl) (by kernel_rfl) ?_)
          intro W347 HS348
          refine ⟨(Sg.g2 (Sx.of [[(b33, .cells #[.int .i64 vid7, .int .i64 vat8.X, .int .i64 vat8.Y, .int .i64 vat8.Z, .int .i64 vt26, .slice A228 x227.length c229, .int .i64 (w64 ((x227.length : Int) * vt291)), .int .i64 (-17592186044416), .int .i64 17592186044416] 62 (0, 0))], [(b1, .cells #[.slice A4 s3.L.length c5, .int .i64 vt292] 33 (0, 0))], s334] (L329.trans L343) HS348) (fun hl_ => Bool.noConfusion (show true = false from hl_)) (fun hl_ => Bool.noConfusion (show true = false from hl_))), ?_⟩
          refine hR303 _ _ ?_
          exact J304 b332 s334 f328 f342 W347 _ HO336 L329 L343 HS348 (by kernel_rfl)
      clear h; have h := hv233; clear hv233
      have HS236 := HS91.cons_nil
      refine loopK (fun n_ a_ w_ => ∃ (f160 : FM) (A168 : Option Addr) (c169 : Nat) (s170 : Seg) (x165 : Int) (x166 : Int) (x167 : List Int) (j164 : Nat → Value), FM.le f88 f160 ∧ St t w_ f160 (s170 :: [(b1, .cells #[.slice A4 s3.L.length c5, .int .i64 x166] 33 (0, 0))] :: [(b33, .cells #[.int .i64 vid7, .int .i64 vat8.X, .int .i64 vat8.Y, .int .i64 vat8.Z, .int .i64 vt26, .slice A168 x167.length c169, .int .i64 0, .int .i64 (-17592186044416), .int .i64 17592186044416] 62 (0, 0))] :: [(b15, .cells #[.int .i64 0, .int .i64 0, .int .i64 0, .int .i64 0, .int .i64 0, .slice none 0 0, .int .i64 0, .int .i64 0, .int .i64 0] 62 (0, 0))] :: [(b11, .cells #[.int .i64 vat8.X, .int .i64 vat8.Y, .int .i64 vat8.Z] 23 (0, 0))] :: H) ∧ Own (tInt .i64) 34 f160 A168 c169 s170 x167 ∧ spymake_Stream_Star.l0 k vt85 s3 vt26 n_ x165 x166 x167 = some o156 ∧ a_ = ⟨#[.pointer (some ⟨b1, 0, none⟩), iV vid7, .agg #[iV vat8.X, iV vat8.Y, iV vat8.Z], uV, uV, .pointer (some ⟨b11, 0, none⟩), .pointer (some ⟨b15, 0, none⟩), .pointer (some ⟨b33, 0, none⟩), iV vid7, .agg #[iV vat8.X, iV vat8.Y, iV vat8.Z], .pointer (some ⟨b1, 0, none⟩), iV vt26, .agg #[iV vid7, iV vat8.X, iV vat8.Y, iV vat8.Z, iV vt26, .slice none 0 0, iV 0, iV (-17592186044416), iV 17592186044416], .pointer (some ⟨b1, 0, none⟩), iV vt72, .bool true, .pointer (some ⟨b1, 0, none⟩), iV vt85, iV x165, (j164 0), (j164 1), (j164 2), (j164 3), (j164 4), (j164 5), (j164 6), (j164 7), (j164 8), (j164 9), (j164 10), (j164 11), (j164 12), uV, uV, uV, uV, uV, uV, uV, uV, uV, uV, uV, uV, uV, uV, uV, uV, uV, uV, uV, uV, uV, uV, uV, uV, uV], []⟩) k ⟨f88, none, 0, [], 0, vt86, ([] : List Int), (fun i_ => [undef, undef, undef, undef, undef, undef, undef, undef, undef, undef, undef, undef, undef].getD i_ undef), (FM.le.refl _), HS236, (Own.nil _), h, (by kernel_rfl)⟩ ?_
      clear h
      rintro n159 _ W162 ⟨f160, A168, c169, s170, x165, x166, x167, j164, L161, HS163, HO171, h, rfl⟩ K157 hK158
      obtain _ | n159 := n159
      · exact nomatch h
      simp only [spymake_Stream_Star.l0] at h
      refine wp_seq_k (fun K173 hK174 => ?_)
      refine wp_region_lit ?_
      refine seqS1 (a' := ⟨#[.pointer (some ⟨b1, 0, none⟩), iV vid7, .agg #[iV vat8.X, iV vat8.Y, iV vat8.Z], uV, uV, .pointer (some ⟨b11, 0, none⟩), .pointer (some ⟨b15, 0, none⟩), .pointer (some ⟨b33, 0, none⟩), iV vid7, .agg #[iV vat8.X, iV vat8.Y, iV vat8.Z], .pointer (some ⟨b1, 0, none⟩), iV vt26, .agg #[iV vid7, iV vat8.X, iV vat8.Y, iV vat8.Z, iV vt26, .slice none 0 0, iV 0, iV (-17592186044416), iV 17592186044416], .pointer (some ⟨b1, 0, none⟩), iV vt72, .bool true, .pointer (some ⟨b1, 0, none⟩), iV vt85, iV x165, .bool (decide (x165 < vt85)), (j164 1), (j164 2), (j164 3), (j164 4), (j164 5), (j164 6), (j164 7), (j164 8), (j164 9), (j164 10), (j164 11), (j164 12), uV, uV, uV, uV, uV, uV, uV, uV, uV, uV, uV, uV, uV, uV, uV, uV, uV, uV, uV, uV, uV, uV, uV, uV, uV], []⟩) (by kernel_rfl) ?_
      refine wpList_nil ?_
      refine hK174 _ _ ?_
      refine wp_seq_k (fun K175 hK176 => ?_)
      have hq_ := ite_some h; clear h; rcases hq_ with ⟨c178, h⟩ | ⟨c178, h⟩
      · have c178 : x165 < vt85 := c178
        refine wpRwI 19 (x := (decide (x165 < vt85))) (v := true) (by kernel_rfl) (decide_eq_true c178) ?_
        refine condT (by kernel_rfl) ?_
        refine wp_skip ?_
        refine hK176 _ _ ?_
        refine wp_seq_k (fun K179 hK180 => ?_)
        refine blockK (fun B181 hx182 hn183 hr184 ho185 hp186 => ?_)
        have HS188 := HS163.u4
        have HS189 := HS188.u4
        have HS190 := HS189.u4
        have HS191 := HS190.u4
        have HS192 := HS191.u4
        refine heldG (S := Sg t f160 ([(b15, .cells #[.int .i64 0, .int .i64 0, .int .i64 0, .int .i64 0, .int .i64 0, .slice none 0 0, .int .i64 0, .int .i64 0, .int .i64 0] 62 (0, 0))] :: [(b11, .cells #[.int .i64 vat8.X, .int .i64 vat8.Y, .int .i64 vat8.Z] 23 (0, 0))] :: H) [(9, s170), (3, [(b1, .cells #[.slice A4 s3.L.length c5, .int .i64 x166] 33 (0, 0))]), (11, [(b33, .cells #[.int .i64 vid7, .int .i64 vat8.X, .int .i64 vat8.Y, .int .i64 vat8.Z, .int .i64 vt26, .slice A168 x167.length c169, .int .i64 0, .int .i64 (-17592186044416), .int .i64 17592186044416] 62 (0, 0))])]) (n := 12) (by kernel_rfl) rfl HS192 ?_
        intro W193 HS194
        refine takeG [0] (n := 12) (fuel := 11) (l' := #[true, false, false, false, false, false, false, false, false, false, false, false]) (a' := ⟨#[.pointer (some ⟨b1, 0, none⟩), iV vid7, .agg #[iV vat8.X, iV vat8.Y, iV vat8.Z], uV, uV, .pointer (some ⟨b11, 0, none⟩), .pointer (some ⟨b15, 0, none⟩), .pointer (some ⟨b33, 0, none⟩), iV vid7, .agg #[iV vat8.X, iV vat8.Y, iV vat8.Z], .pointer (some ⟨b1, 0, none⟩), iV vt26, .agg #[iV vid7, iV vat8.X, iV vat8.Y, iV vat8.Z, iV vt26, .slice none 0 0, iV 0, iV (-17592186044416), iV 17592186044416], .pointer (some ⟨b1, 0, none⟩), iV vt72, .bool true, .pointer (some ⟨b1, 0, none⟩), iV vt85, iV x165, .bool true, .pointer (some ⟨b33, 5, none⟩), (j164 2), (j164 3), (j164 4), (j164 5), (j164 6), (j164 7), (j164 8), (j164 9), (j164 10), (j164 11), (j164 12), uV, uV, uV, uV, uV, uV, uV, uV, uV, uV, uV, uV, uV, uV, uV, uV, uV, uV, uV, uV, uV, uV, uV, uV, uV], []⟩) rfl (by kernel_rfl) (by kernel_rfl) (by kernel_rfl) (fun ch_ a_ w_ q_ => (fun ch_ a_ w_ q_ => hnp ch_ a_ w_ (hp97 ch_ a_ w_ q_)) ch_ a_ w_ (hp186 ch_ a_ w_ q_)) (Sg.g3 (Sx.of [s170, [(b1, .cells #[.slice A4 s3.L.length c5, .int .i64 x166] 33 (0, 0))], [(b33, .cells #[.int .i64 vid7, .int .i64 vat8.X, .int .i64 vat8.Y, .int .i64 vat8.Z, .int .i64 vt26, .slice A168 x167.length c169, .int .i64 0, .int .i64 (-17592186044416), .int .i64 17592186044416] 62 (0, 0))]] (FM.le.refl _) HS194) (fun _ => St.only [] HS194 (FM.le.refl _)) (fun _ => St.only [s170] HS194 (FM.le.refl _)) (fun _ => St.only [s170, [(b1, .cells #[.slice A4 s3.L.length c5, .int .i64 x166] 33 (0, 0))]] HS194 (FM.le.refl _))) ?_
        refine takeGQ 1 [11] rfl (by kernel_rfl) (by kernel_rfl) (by kernel_rfl) (by kernel_rfl) (by kernel_rfl) (by kernel_rfl) (fun ch_ a_ w_ q_ => (fun ch_ a_ w_ q_ => hnp ch_ a_ w_ (hp97 ch_ a_ w_ q_)) ch_ a_ w_ (hp186 ch_ a_ w_ q_)) (Sg.g3 (Sx.of [s170, [(b1, .cells #[.slice A4 s3.L.length c5, .int .i64 x166] 33 (0, 0))], [(b33, .cells #[.int .i64 vid7, .int .i64 vat8.X, .int .i64 vat8.Y, .int .i64 vat8.Z, .int .i64 vt26, .slice A168 x167.length c169, .int .i64 0, .int .i64 (-17592186044416), .int .i64 17592186044416] 62 (0, 0))]] (FM.le.refl _) HS194) (fun _ => St.only [] HS194 (FM.le.refl _)) (fun _ => St.only [s170] HS194 (FM.le.refl _)) (fun _ => St.only [s170, [(b1, .cells #[.slice A4 s3.L.length c5, .int .i64 x166] 33 (0, 0))]] HS194 (FM.le.refl _))) (fun w_ hw_ => by obtain ⟨g_, hl_, hS_⟩ := hw_.seg (j := 11) (s := [(b33, .cells #[.int .i64 vid7, .int .i64 vat8.X, .int .i64 vat8.Y, .int .i64 vat8.Z, .int .i64 vt26, .slice A168 x167.length c169, .int .i64 0, .int .i64 (-17592186044416), .int .i64 17592186044416] 62 (0, 0))]) (by simp) (by simp); exact run_load rfl Try.underlying60 rfl (by kernel_rfl : _ = Value.pointer (some ⟨b33, 5, none⟩)) (hS_.cell 5)) ?_
        refine takeG [2, 4] (n := 10) (fuel := 8) (l' := #[true, true, true, false, true, false, false, false, false, false, false, false]) (a' := ⟨#[.pointer (some ⟨b1, 0, none⟩), iV vid7, .agg #[iV vat8.X, iV vat8.Y, iV vat8.Z], uV, uV, .pointer (some ⟨b11, 0, none⟩), .pointer (some ⟨b15, 0, none⟩), .pointer (some ⟨b33, 0, none⟩), iV vid7, .agg #[iV vat8.X, iV vat8.Y, iV vat8.Z], .pointer (some ⟨b1, 0, none⟩), iV vt26, .agg #[iV vid7, iV vat8.X, iV vat8.Y, iV vat8.Z, iV vt26, .slice none 0 0, iV 0, iV (-17592186044416), iV 17592186044416], .pointer (some ⟨b1, 0, none⟩), iV vt72, .bool true, .pointer (some ⟨b1, 0, none⟩), iV vt85, iV x165, .bool true, .pointer (some ⟨b33, 5, none⟩), .slice A168 x167.length c169, .pointer (some ⟨b1, 0, none⟩), (j164 4), .pointer (some ⟨b33, 4, none⟩), (j164 6), (j164 7), (j164 8), (j164 9), (j164 10), (j164 11), (j164 12), uV, uV, uV, uV, uV, uV, uV, uV, uV, uV, uV, uV, uV, uV, uV, uV, uV, uV, uV, uV, uV, uV, uV, uV, uV], []⟩) rfl (by kernel_rfl) (by kernel_rfl) (by kernel_rfl) (fun ch_ a_ w_ q_ => (fun ch_ a_ w_ q_ => hnp ch_ a_ w_ (hp97 ch_ a_ w_ q_)) ch_ a_ w_ (hp186 ch_ a_ w_ q_)) (Sg.g3 (Sx.of [s170, [(b1, .cells #[.slice A4 s3.L.length c5, .int .i64 x166] 33 (0, 0))], [(b33, .cells #[.int .i64 vid7, .int .i64 vat8.X, .int .i64 vat8.Y, .int .i64 vat8.Z, .int .i64 vt26, .slice A168 x167.length c169, .int .i64 0, .int .i64 (-17592186044416), .int .i64 17592186044416] 62 (0, 0))]] (FM.le.refl _) HS194) (fun _ => St.only [] HS194 (FM.le.refl _)) (fun _ => St.only [s170] HS194 (FM.le.refl _)) (fun _ => St.only [s170, [(b1, .cells #[.slice A4 s3.L.length c5, .int .i64 x166] 33 (0, 0))]] HS194 (FM.le.refl _))) ?_
        refine takeGQ 5 [11] rfl (by kernel_rfl) (by kernel_rfl) (by kernel_rfl) (by kernel_rfl) (by kernel_rfl) (by kernel_rfl) (fun ch_ a_ w_ q_ => (fun ch_ a_ w_ q_ => hnp ch_ a_ w_ (hp97 ch_ a_ w_ q_)) ch_ a_ w_ (hp186 ch_ a_ w_ q_)) (Sg.g3 (Sx.of [s170, [(b1, .cells #[.slice A4 s3.L.length c5, .int .i64 x166] 33 (0, 0))], [(b33, .cells #[.int .i64 vid7, .int .i64 vat8.X, .int .i64 vat8.Y, .int .i64 vat8.Z, .int .i64 vt26, .slice A168 x167.length c169, .int .i64 0, .int .i64 (-17592186044416), .int .i64 17592186044416] 62 (0, 0))]] (FM.le.refl _) HS194) (fun _ => St.only [] HS194 (FM.le.refl _)) (fun _ => St.only [s170] HS194 (FM.le.refl _)) (fun _ => St.only [s170, [(b1, .cells #[.slice A4 s3.L.length c5, .int .i64 x166] 33 (0, 0))]] HS194 (FM.le.refl _))) (fun w_ hw_ => by obtain ⟨g_, hl_, hS_⟩ := hw_.seg (j := 11) (s := [(b33, .cells #[.int .i64 vid7, .int .i64 vat8.X, .int .i64 vat8.Y, .int .i64 vat8.Z, .int .i64 vt26, .slice A168 x167.length c169, .int .i64 0, .int .i64 (-17592186044416), .int .i64 17592186044416] 62 (0, 0))]) (by simp) (by simp); exact run_load rfl Try.underlying34 rfl (by kernel_rfl : _ = Value.pointer (some ⟨b33, 4, none⟩)) (hS_.cell 4)) ?_
        refine takeG [6] (n := 7) (fuel := 6) (l' := #[true, true, true, false, true, true, true, false, false, false, false, false]) (a' := ⟨#[.pointer (some ⟨b1, 0, none⟩), iV vid7, .agg #[iV vat8.X, iV vat8.Y, iV vat8.Z], uV, uV, .pointer (some ⟨b11, 0, none⟩), .pointer (some ⟨b15, 0, none⟩), .pointer (some ⟨b33, 0, none⟩), iV vid7, .agg #[iV vat8.X, iV vat8.Y, iV vat8.Z], .pointer (some ⟨b1, 0, none⟩), iV vt26, .agg #[iV vid7, iV vat8.X, iV vat8.Y, iV vat8.Z, iV vt26, .slice none 0 0, iV 0, iV (-17592186044416), iV 17592186044416], .pointer (some ⟨b1, 0, none⟩), iV vt72, .bool true, .pointer (some ⟨b1, 0, none⟩), iV vt85, iV x165, .bool true, .pointer (some ⟨b33, 5, none⟩), .slice A168 x167.length c169, .pointer (some ⟨b1, 0, none⟩), (j164 4), .pointer (some ⟨b33, 4, none⟩), iV vt26, iV (w64 (1048576 - vt26)), (j164 8), (j164 9), (j164 10), (j164 11), (j164 12), uV, uV, uV, uV, uV, uV, uV, uV, uV, uV, uV, uV, uV, uV, uV, uV, uV, uV, uV, uV, uV, uV, uV, uV, uV], []⟩) rfl (by kernel_rfl) (by kernel_rfl) (by kernel_rfl) (fun ch_ a_ w_ q_ => (fun ch_ a_ w_ q_ => hnp ch_ a_ w_ (hp97 ch_ a_ w_ q_)) ch_ a_ w_ (hp186 ch_ a_ w_ q_)) (Sg.g3 (Sx.of [s170, [(b1, .cells #[.slice A4 s3.L.length c5, .int .i64 x166] 33 (0, 0))], [(b33, .cells #[.int .i64 vid7, .int .i64 vat8.X, .int .i64 vat8.Y, .int .i64 vat8.Z, .int .i64 vt26, .slice A168 x167.length c169, .int .i64 0, .int .i64 (-17592186044416), .int .i64 17592186044416] 62 (0, 0))]] (FM.le.refl _) HS194) (fun _ => St.only [] HS194 (FM.le.refl _)) (fun _ => St.only [s170] HS194 (FM.le.refl _)) (fun _ => St.only [s170, [(b1, .cells #[.slice A4 s3.L.length c5, .int .i64 x166] 33 (0, 0))]] HS194 (FM.le.refl _))) ?_
        have HS195 := HS194.u1
        have hq_ := bind_some h; clear h; obtain ⟨⟨vt196, vt197⟩, hc198, h⟩ := hq_
        refine takeGE 3 (by kernel_rfl) rfl (by kernel_rfl) (does_call (f := 32) (args := #[.pointer (some ⟨b1, 0, none⟩)]) (by kernel_rfl) (spymake_Stream_rate.calls k b1 A4 c5 (⟨s3.L, x166⟩ : S_Stream) HS195 (HR6.mono (L30.trans (L76.trans (L89.trans L161)))) vt196 vt197 hc198) ?_)
        rintro _ W201 ⟨f199, rfl, L200, HS202⟩
        refine ⟨_, rfl, ?_⟩
        refine ⟨(Sg.g3 (Sx.of [[(b1, .cells #[.slice A4 s3.L.length c5, .int .i64 vt197] 33 (0, 0))], s170, [(b33, .cells #[.int .i64 vid7, .int .i64 vat8.X, .int .i64 vat8.Y, .int .i64 vat8.Z, .int .i64 vt26, .slice A168 x167.length c169, .int .i64 0, .int .i64 (-17592186044416), .int .i64 17592186044416] 62 (0, 0))]] L200 HS202) (fun _ => St.only [[(b1, .cells #[.slice A4 s3.L.length c5, .int .i64 vt197] 33 (0, 0))]] HS202 L200) (fun hl_ => Bool.noConfusion (show true = false from hl_)) (fun _ => St.only [[(b1, .cells #[.slice A4 s3.L.length c5, .int .i64 vt197] 33 (0, 0))], s170] HS202 L200)), ?_⟩
        refine takeG [7] (n := 5) (fuel := 4) (l' := #[true, true, true, true, true, true, true, true, false, false, false, false]) (a' := ⟨#[.pointer (some ⟨b1, 0, none⟩), iV vid7, .agg #[iV vat8.X, iV vat8.Y, iV vat8.Z], uV, uV, .pointer (some ⟨b11, 0, none⟩), .pointer (some ⟨b15, 0, none⟩), .pointer (some ⟨b33, 0, none⟩), iV vid7, .agg #[iV vat8.X, iV vat8.Y, iV vat8.Z], .pointer (some ⟨b1, 0, none⟩), iV vt26, .agg #[iV vid7, iV vat8.X, iV vat8.Y, iV vat8.Z, iV vt26, .slice none 0 0, iV 0, iV (-17592186044416), iV 17592186044416], .pointer (some ⟨b1, 0, none⟩), iV vt72, .bool true, .pointer (some ⟨b1, 0, none⟩), iV vt85, iV x165, .bool true, .pointer (some ⟨b33, 5, none⟩), .slice A168 x167.length c169, .pointer (some ⟨b1, 0, none⟩), iV vt196, .pointer (some ⟨b33, 4, none⟩), iV vt26, iV (w64 (1048576 - vt26)), iV (mn vt196 (w64 (1048576 - vt26))), (j164 9), (j164 10), (j164 11), (j164 12), uV, uV, uV, uV, uV, uV, uV, uV, uV, uV, uV, uV, uV, uV, uV, uV, uV, uV, uV, uV, uV, uV, uV, uV, uV], []⟩) rfl (by kernel_rfl) (by kernel_rfl) (by kernel_rfl) (fun ch_ a_ w_ q_ => (fun ch_ a_ w_ q_ => hnp ch_ a_ w_ (hp97 ch_ a_ w_ q_)) ch_ a_ w_ (hp186 ch_ a_ w_ q_)) (Sg.g3 (Sx.of [[(b1, .cells #[.slice A4 s3.L.length c5, .int .i64 vt197] 33 (0, 0))], s170, [(b33, .cells #[.int .i64 vid7, .int .i64 vat8.X, .int .i64 vat8.Y, .int .i64 vat8.Z, .int .i64 vt26, .slice A168 x167.length c169, .int .i64 0, .int .i64 (-17592186044416), .int .i64 17592186044416] 62 (0, 0))]] L200 HS202) (fun _ => St.only [[(b1, .cells #[.slice A4 s3.L.length c5, .int .i64 vt197] 33 (0, 0))]] HS202 L200) (fun hl_ => Bool.noConfusion (show true = false from hl_)) (fun _ => St.only [[(b1, .cells #[.slice A4 s3.L.length c5, .int .i64 vt197] 33 (0, 0))], s170] HS202 L200)) ?_
        refine takeGE 8 (by kernel_rfl) rfl (by kernel_rfl) (does_lit (e := (tInt .i64)) (E := 34) (vs := #[(0, Value.int .i64 (mn vt196 (w64 (1048576 - vt26))))]) (cs := #[.int .i64 (mn vt196 (w64 (1048576 - vt26)))]) (xs := ([mn vt196 (w64 (1048576 - vt26))] : List Int)) rfl Try.underlying60 (by kernel_rfl) (by kernel_rfl) ⟨[.int .i64 (mn vt196 (w64 (1048576 - vt26)))], _, rfl, rfl, rfl⟩ rfl HS202 ?_ (by decide))
        intro b203 W204 s205 HS206 _ HO207
        refine ⟨(Sg.g3 (Sx.of [s205, [(b1, .cells #[.slice A4 s3.L.length c5, .int .i64 vt197] 33 (0, 0))], s170, [(b33, .cells #[.int .i64 vid7, .int .i64 vat8.X, .int .i64 vat8.Y, .int .i64 vat8.Z, .int .i64 vt26, .slice A168 x167.length c169, .int .i64 0, .int .i64 (-17592186044416), .int .i64 17592186044416] 62 (0, 0))]] L200 HS206) (fun _ => St.only [s205, [(b1, .cells #[.slice A4 s3.L.length c5, .int .i64 vt197] 33 (0, 0))]] HS206 L200) (fun hl_ => Bool.noConfusion (show true = false from hl_)) (fun _ => St.only [s205, [(b1, .cells #[.slice A4 s3.L.length c5, .int .i64 vt197] 33 (0, 0))], s170] HS206 L200)), ?_⟩
        have hq_ := guard_some h; clear h; obtain ⟨c209, h⟩ := hq_
        have c209 : (x167.length + 1) * 8 ≤ 140737488355328 := c209
        have HS210 := HS206.u2
        have HS211 := HS210.u1
        refine takeGE 9 (by kernel_rfl) rfl (by kernel_rfl) (does_append1 (e := (tInt .i64)) (E := 34) (xs := x167) (ys := ([mn vt196 (w64 (1048576 - vt26))] : List Int)) rfl (by kernel_rfl : _ = Value.slice A168 x167.length c169) (by kernel_rfl : _ = Value.slice (some ⟨b203, 0, none⟩) ([mn vt196 (w64 (1048576 - vt26))] : List Int).length 1) Try.underlying60 inf34 (HO171.mono L200) HO207 HS211 c209 (lim63 c209 (by decide)) ?_)
        intro A212 c213 s214 W215 HS216 HO217
        refine ⟨(Sg.g3 (Sx.of [s214, [(b1, .cells #[.slice A4 s3.L.length c5, .int .i64 vt197] 33 (0, 0))], [(b33, .cells #[.int .i64 vid7, .int .i64 vat8.X, .int .i64 vat8.Y, .int .i64 vat8.Z, .int .i64 vt26, .slice A168 x167.length c169, .int .i64 0, .int .i64 (-17592186044416), .int .i64 17592186044416] 62 (0, 0))]] L200 HS216) (fun hl_ => Bool.noConfusion (show true = false from hl_)) (fun hl_ => Bool.noConfusion (show true = false from hl_)) (fun _ => St.only [s214, [(b1, .cells #[.slice A4 s3.L.length c5, .int .i64 vt197] 33 (0, 0))]] HS216 L200)), ?_⟩
        refine takeG [10] (n := 2) (fuel := 1) (l' := #[true, true, true, true, true, true, true, true, true, true, true, false]) (a' := ⟨#[.pointer (some ⟨b1, 0, none⟩), iV vid7, .agg #[iV vat8.X, iV vat8.Y, iV vat8.Z], uV, uV, .pointer (some ⟨b11, 0, none⟩), .pointer (some ⟨b15, 0, none⟩), .pointer (some ⟨b33, 0, none⟩), iV vid7, .agg #[iV vat8.X, iV vat8.Y, iV vat8.Z], .pointer (some ⟨b1, 0, none⟩), iV vt26, .agg #[iV vid7, iV vat8.X, iV vat8.Y, iV vat8.Z, iV vt26, .slice none 0 0, iV 0, iV (-17592186044416), iV 17592186044416], .pointer (some ⟨b1, 0, none⟩), iV vt72, .bool true, .pointer (some ⟨b1, 0, none⟩), iV vt85, iV x165, .bool true, .pointer (some ⟨b33, 5, none⟩), .slice A168 x167.length c169, .pointer (some ⟨b1, 0, none⟩), iV vt196, .pointer (some ⟨b33, 4, none⟩), iV vt26, iV (w64 (1048576 - vt26)), iV (mn vt196 (w64 (1048576 - vt26))), .slice (some ⟨b203, 0, none⟩) ([mn vt196 (w64 (1048576 - vt26))] : List Int).length 1, .slice A212 (x167 ++ ([mn vt196 (w64 (1048576 - vt26))] : List Int)).length c213, .pointer (some ⟨b33, 5, none⟩), (j164 12), uV, uV, uV, uV, uV, uV, uV, uV, uV, uV, uV, uV, uV, uV, uV, uV, uV, uV, uV, uV, uV, uV, uV, uV, uV], []⟩) rfl (by kernel_rfl) (by kernel_rfl) (by kernel_rfl) (fun ch_ a_ w_ q_ => (fun ch_ a_ w_ q_ => hnp ch_ a_ w_ (hp97 ch_ a_ w_ q_)) ch_ a_ w_ (hp186 ch_ a_ w_ q_)) (Sg.g3 (Sx.of [s214, [(b1, .cells #[.slice A4 s3.L.length c5, .int .i64 vt197] 33 (0, 0))], [(b33, .cells #[.int .i64 vid7, .int .i64 vat8.X, .int .i64 vat8.Y, .int .i64 vat8.Z, .int .i64 vt26, .slice A168 x167.length c169, .int .i64 0, .int .i64 (-17592186044416), .int .i64 17592186044416] 62 (0, 0))]] L200 HS216) (fun hl_ => Bool.noConfusion (show true = false from hl_)) (fun hl_ => Bool.noConfusion (show true = false from hl_)) (fun _ => St.only [s214, [(b1, .cells #[.slice A4 s3.L.length c5, .int .i64 vt197] 33 (0, 0))]] HS216 L200)) ?_
        have HS218 := HS216.u2
        refine takeGE 11 (by kernel_rfl) rfl (by kernel_rfl) (does_store (n := 1) (vs := [.slice A212 (x167 ++ ([mn vt196 (w64 (1048576 - vt26))] : List Int)).length c213]) (cs' := #[.int .i64 vid7, .int .i64 vat8.X, .int .i64 vat8.Y, .int .i64 vat8.Z, .int .i64 vt26, .slice A212 (x167 ++ ([mn vt196 (w64 (1048576 - vt26))] : List Int)).length c213, .int .i64 0, .int .i64 (-17592186044416), .int .i64 17592186044416]) rfl (by kernel_rfl) (by kernel_rfl : _ = Value.pointer (some ⟨b33, 5, none⟩)) (by kernel_rfl : _ = Value.slice A212 (x167 ++ ([mn vt196 (w64 (1048576 - vt26))] : List Int)).length c213) rfl rfl (by intro u_ hu_; simp only [List.mem_cons, List.not_mem_nil, or_false] at hu_; subst hu_; rfl) HS218 (Nat.le_of_ble_eq_true rfl) (by kernel_rfl) ?_)
        intro W219 HS220
        refine ⟨(Sg.g3 (Sx.of [[(b33, .cells #[.int .i64 vid7, .int .i64 vat8.X, .int .i64 vat8.Y, .int .i64 vat8.Z, .int .i64 vt26, .slice A212 (x167 ++ ([mn vt196 (w64 (1048576 - vt26))] : List Int)).length c213, .int .i64 0, .int .i64 (-17592186044416), .int .i64 17592186044416] 62 (0, 0))], s214, [(b1, .cells #[.slice A4 s3.L.length c5, .int .i64 vt197] 33 (0, 0))]] L200 HS220) (fun hl_ => Bool.noConfusion (show true = false from hl_)) (fun hl_ => Bool.noConfusion (show true = false from hl_)) (fun hl_ => Bool.noConfusion (show true = false from hl_))), ?_⟩
        refine doneG (by kernel_rfl) ?_ _
        refine hn183 _ _ ?_
        refine hK180 _ _ ?_
        refine wp_region_lit ?_
        refine seqS2 (a' := ⟨#[.pointer (some ⟨b1, 0, none⟩), iV vid7, .agg #[iV vat8.X, iV vat8.Y, iV vat8.Z], uV, uV, .pointer (some ⟨b11, 0, none⟩), .pointer (some ⟨b15, 0, none⟩), .pointer (some ⟨b33, 0, none⟩), iV vid7, .agg #[iV vat8.X, iV vat8.Y, iV vat8.Z], .pointer (some ⟨b1, 0, none⟩), iV vt26, .agg #[iV vid7, iV vat8.X, iV vat8.Y, iV vat8.Z, iV vt26, .slice none 0 0, iV 0, iV (-17592186044416), iV 17592186044416], .pointer (some ⟨b1, 0, none⟩), iV vt72, .bool true, .pointer (some ⟨b1, 0, none⟩), iV vt85, iV (w64 (x165 + 1)), .bool true, .pointer (some ⟨b33, 5, none⟩), .slice A168 x167.length c169, .pointer (some ⟨b1, 0, none⟩), iV vt196, .pointer (some ⟨b33, 4, none⟩), iV vt26, iV (w64 (1048576 - vt26)), iV (mn vt196 (w64 (1048576 - vt26))), .slice (some ⟨b203, 0, none⟩) ([mn vt196 (w64 (1048576 - vt26))] : List Int).length 1, .slice A212 (x167 ++ ([mn vt196 (w64 (1048576 - vt26))] : List Int)).length c213, .pointer (some ⟨b33, 5, none⟩), iV (w64 (x165 + 1)), uV, uV, uV, uV, uV, uV, uV, uV, uV, uV, uV, uV, uV, uV, uV, uV, uV, uV, uV, uV, uV, uV, uV, uV, uV], []⟩) (by kernel_rfl) ?_
        refine wpList_nil ?_
        refine hK158 n159 _ _ (Nat.lt_succ_self _) ?_
        have HS238 := HS220.u4
        have HS239 := HS238.u4
        have HS240 := HS239.u2
        have HS241 := HS240.u4
        have HS242 := HS241.u4
        exact ⟨f199, A212, c213, s214, (w64 (x165 + 1)), vt197, (x167 ++ ([mn vt196 (w64 (1048576 - vt26))] : List Int)), (fun i_ => [Value.bool true, Value.pointer (some ⟨b33, 5, none⟩), Value.slice A168 x167.length c169, Value.pointer (some ⟨b1, 0, none⟩), Value.int .i64 vt196, Value.pointer (some ⟨b33, 4, none⟩), Value.int .i64 vt26, Value.int .i64 (w64 (1048576 - vt26)), Value.int .i64 (mn vt196 (w64 (1048576 - vt26))), Value.slice (some ⟨b203, 0, none⟩) ([mn vt196 (w64 (1048576 - vt26))] : List Int).length 1, Value.slice A212 (x167 ++ ([mn vt196 (w64 (1048576 - vt26))] : List Int)).length c213, Value.pointer (some ⟨b33, 5, none⟩), Value.int .i64 (w64 (x165 + 1))].getD i_ undef), (L161.trans L200), HS242, HO217, h, (by kernel_rfl)⟩
      · have c178 : ¬ (x165 < vt85) := c178
        refine wpRwI 19 (x := (decide (x165 < vt85))) (v := false) (by kernel_rfl) (decide_eq_false c178) ?_
        refine condF (by kernel_rfl) ?_
        refine wp_exit ?_
        refine hx93 _ _ ?_
        exact J234 f160 A168 c169 s170 x166 x167 (fun i_ => [Value.int .i64 x165, Value.bool false, (j164 1), (j164 2), (j164 3), (j164 4), (j164 5), (j164 6), (j164 7), (j164 8), (j164 9), (j164 10), (j164 11), (j164 12)].getD i_ undef) W162 _ L161 h HS163 HO171 (by kernel_rfl)
    · have c80 : ¬ (vt72 = 0) := c80
      refine wpRwI 15 (x := (vt72 == 0)) (v := false) (by kernel_rfl) (beq_eq_false_iff_ne.mpr c80) ?_
      refine condF (by kernel_rfl) ?_
      refine wp_skip ?_
      have HS372 := HS78.cons_nil
      exact J363 f75 none 0 [] vt73 ([] : List Int) 0 (fun i_ => [Value.bool false, undef, undef, undef, undef, undef, undef, undef, undef, undef, undef, undef, undef, undef, undef, undef, undef, undef, undef, undef, undef, undef, undef, undef, undef, undef, undef, undef, undef].getD i_ undef) W77 _ (FM.le.refl _) h HS372 (Own.nil _) (by kernel_rfl)
  refine takeEither 3 5 (by kernel_rfl) rfl rfl rfl rfl ?_ ?_
  · refine does_call (f := 32) (args := #[.pointer (some ⟨b1, 0, none⟩)]) (by kernel_rfl) (spymake_Stream_rate.calls k b1 A4 c5 s3 HS25 HR6 vt26 vt27 hc28) ?_
    rintro _ W47 ⟨f45, rfl, L46, HS48⟩
    refine ⟨_, rfl, ?_⟩
    refine ⟨(Sg.g1 (Sx.of [[(b1, .cells #[.slice A4 s3.L.length c5, .int .i64 vt27] 33 (0, 0))]] L46 HS48) (fun hl_ => Bool.noConfusion (show true = false from hl_))), ?_⟩
    refine takeG [4] (n := 3) (fuel := 2) (l' := #[true, true, true, true, true, false, false]) (a' := ⟨#[.pointer (some ⟨b1, 0, none⟩), iV vid7, .agg #[iV vat8.X, iV vat8.Y, iV vat8.Z], uV, uV, .pointer (some ⟨b11, 0, none⟩), .pointer (some ⟨b15, 0, none⟩), uV, iV vid7, .agg #[iV vat8.X, iV vat8.Y, iV vat8.Z], .pointer (some ⟨b1, 0, none⟩), iV vt26, .agg #[iV vid7, iV vat8.X, iV vat8.Y, iV vat8.Z, iV vt26, .slice none 0 0, iV 0, iV (-17592186044416), iV 17592186044416], uV, uV, uV, uV, uV, uV, uV, uV, uV, uV, uV, uV, uV, uV, uV, uV, uV, uV, uV, uV, uV, uV, uV, uV, uV, uV, uV, uV, uV, uV, uV, uV, uV, uV, uV, uV, uV, uV, uV, uV, uV, uV, uV, uV], []⟩) rfl (by kernel_rfl) (by kernel_rfl) (by kernel_rfl) hnp (Sg.g1 (Sx.of [[(b1, .cells #[.slice A4 s3.L.length c5, .int .i64 vt27] 33 (0, 0))]] L46 HS48) (fun hl_ => Bool.noConfusion (show true = false from hl_))) ?_
    refine takeGE 5 (by kernel_rfl) rfl (by kernel_rfl) (does_alloc (z := Value.agg #[.int .i64 0, .int .i64 0, .int .i64 0, .int .i64 0, .int .i64 0, .slice none 0 0, .int .i64 0, .int .i64 0, .int .i64 0]) (cs := #[.int .i64 0, .int .i64 0, .int .i64 0, .int .i64 0, .int .i64 0, .slice none 0 0, .int .i64 0, .int .i64 0, .int .i64 0]) rfl (by kernel_rfl) rfl HS48 ?_)
    intro b49 W50 HS51
    refine ⟨(Sg.g1 (Sx.of [[(b49, .cells #[.int .i64 0, .int .i64 0, .int .i64 0, .int .i64 0, .int .i64 0, .slice none 0 0, .int .i64 0, .int .i64 0, .int .i64 0] 62 (0, 0))], [(b1, .cells #[.slice A4 s3.L.length c5, .int .i64 vt27] 33 (0, 0))]] L46 HS51) (fun hl_ => Bool.noConfusion (show true = false from hl_))), ?_⟩
    refine takeGE 6 (by kernel_rfl) rfl (by kernel_rfl) (does_store (n := 9) (vs := [.int .i64 vid7, .int .i64 vat8.X, .int .i64 vat8.Y, .int .i64 vat8.Z, .int .i64 vt26, .slice none 0 0, .int .i64 0, .int .i64 (-17592186044416), .int .i64 17592186044416]) (cs' := #[.int .i64 vid7, .int .i64 vat8.X, .int .i64 vat8.Y, .int .i64 vat8.Z, .int .i64 vt26, .slice none 0 0, .int .i64 0, .int .i64 (-17592186044416), .int .i64 17592186044416]) rfl (by kernel_rfl) (by kernel_rfl : _ = Value.pointer (some ⟨b49, 0, none⟩)) (by kernel_rfl : _ = Value.agg #[.int .i64 vid7, .int .i64 vat8.X, .int .i64 vat8.Y, .int .i64 vat8.Z, .int .i64 vt26, .slice none 0 0, .int .i64 0, .int .i64 (-17592186044416), .int .i64 17592186044416]) rfl rfl (by intro u_ hu_; simp only [List.mem_cons, List.not_mem_nil, or_false] at hu_; rcases hu_ with rfl | rfl | rfl | rfl | rfl | rfl | rfl | rfl | rfl <;> rfl) HS51 (Nat.le_of_ble_eq_true rfl) (by kernel_rfl) ?_)
    intro W53 HS54
    refine ⟨(Sg.g1 (Sx.of [[(b49, .cells #[.int .i64 vid7, .int .i64 vat8.X, .int .i64 vat8.Y, .int .i64 vat8.Z, .int .i64 vt26, .slice none 0 0, .int .i64 0, .int .i64 (-17592186044416), .int .i64 17592186044416] 62 (0, 0))], [(b1, .cells #[.slice A4 s3.L.length c5, .int .i64 vt27] 33 (0, 0))]] L46 HS54) (fun hl_ => Bool.noConfusion (show true = false from hl_))), ?_⟩
    refine hR41 _ _ ?_
    exact J42 f45 b49 W53 _ L46 HS54 (by kernel_rfl)
  · refine does_alloc (z := Value.agg #[.int .i64 0, .int .i64 0, .int .i64 0, .int .i64 0, .int .i64 0, .slice none 0 0, .int .i64 0, .int .i64 0, .int .i64 0]) (cs := #[.int .i64 0, .int .i64 0, .int .i64 0, .int .i64 0, .int .i64 0, .slice none 0 0, .int .i64 0, .int .i64 0, .int .i64 0]) rfl (by kernel_rfl) rfl HS25 ?_
    intro b55 W56 HS57
    refine ⟨(Sg.g1 (Sx.of [[(b55, .cells #[.int .i64 0, .int .i64 0, .int .i64 0, .int .i64 0, .int .i64 0, .slice none 0 0, .int .i64 0, .int .i64 0, .int .i64 0] 62 (0, 0))], [(b1, .cells #[.slice A4 s3.L.length c5, .int .i64 s3.vat] 33 (0, 0))]] (FM.le.refl _) HS57) (fun _ => St.only [[(b55, .cells #[.int .i64 0, .int .i64 0, .int .i64 0, .int .i64 0, .int .i64 0, .slice none 0 0, .int .i64 0, .int .i64 0, .int .i64 0] 62 (0, 0))]] HS57 (FM.le.refl _))), ?_⟩
    have HS59 := HS57.u1
    refine takeGE 3 (by kernel_rfl) rfl (by kernel_rfl) (does_call (f := 32) (args := #[.pointer (some ⟨b1, 0, none⟩)]) (by kernel_rfl) (spymake_Stream_rate.calls k b1 A4 c5 s3 HS59 HR6 vt26 vt27 hc28) ?_)
    rintro _ W62 ⟨f60, rfl, L61, HS63⟩
    refine ⟨_, rfl, ?_⟩
    refine ⟨(Sg.g1 (Sx.of [[(b1, .cells #[.slice A4 s3.L.length c5, .int .i64 vt27] 33 (0, 0))], [(b55, .cells #[.int .i64 0, .int .i64 0, .int .i64 0, .int .i64 0, .int .i64 0, .slice none 0 0, .int .i64 0, .int .i64 0, .int .i64 0] 62 (0, 0))]] L61 HS63) (fun hl_ => Bool.noConfusion (show true = false from hl_))), ?_⟩
    refine takeG [4] (n := 2) (fuel := 1) (l' := #[true, true, true, true, true, true, false]) (a' := ⟨#[.pointer (some ⟨b1, 0, none⟩), iV vid7, .agg #[iV vat8.X, iV vat8.Y, iV vat8.Z], uV, uV, .pointer (some ⟨b11, 0, none⟩), .pointer (some ⟨b15, 0, none⟩), .pointer (some ⟨b55, 0, none⟩), iV vid7, .agg #[iV vat8.X, iV vat8.Y, iV vat8.Z], .pointer (some ⟨b1, 0, none⟩), iV vt26, .agg #[iV vid7, iV vat8.X, iV vat8.Y, iV vat8.Z, iV vt26, .slice none 0 0, iV 0, iV (-17592186044416), iV 17592186044416], uV, uV, uV, uV, uV, uV, uV, uV, uV, uV, uV, uV, uV, uV, uV, uV, uV, uV, uV, uV, uV, uV, uV, uV, uV, uV, uV, uV, uV, uV, uV, uV, uV, uV, uV, uV, uV, uV, uV, uV, uV, uV, uV, uV], []⟩) rfl (by kernel_rfl) (by kernel_rfl) (by kernel_rfl) hnp (Sg.g1 (Sx.of [[(b1, .cells #[.slice A4 s3.L.length c5, .int .i64 vt27] 33 (0, 0))], [(b55, .cells #[.int .i64 0, .int .i64 0, .int .i64 0, .int .i64 0, .int .i64 0, .slice none 0 0, .int .i64 0, .int .i64 0, .int .i64 0] 62 (0, 0))]] L61 HS63) (fun hl_ => Bool.noConfusion (show true = false from hl_))) ?_
    have HS64 := HS63.u1
    refine takeGE 6 (by kernel_rfl) rfl (by kernel_rfl) (does_store (n := 9) (vs := [.int .i64 vid7, .int .i64 vat8.X, .int .i64 vat8.Y, .int .i64 vat8.Z, .int .i64 vt26, .slice none 0 0, .int .i64 0, .int .i64 (-17592186044416), .int .i64 17592186044416]) (cs' := #[.int .i64 vid7, .int .i64 vat8.X, .int .i64 vat8.Y, .int .i64 vat8.Z, .int .i64 vt26, .slice none 0 0, .int .i64 0, .int .i64 (-17592186044416), .int .i64 17592186044416]) rfl (by kernel_rfl) (by kernel_rfl : _ = Value.pointer (some ⟨b55, 0, none⟩)) (by kernel_rfl : _ = Value.agg #[.int .i64 vid7, .int .i64 vat8.X, .int .i64 vat8.Y, .int .i64 vat8.Z, .int .i64 vt26, .slice none 0 0, .int .i64 0, .int .i64 (-17592186044416), .int .i64 17592186044416]) rfl rfl (by intro u_ hu_; simp only [List.mem_cons, List.not_mem_nil, or_false] at hu_; rcases hu_ with rfl | rfl | rfl | rfl | rfl | rfl | rfl | rfl | rfl <;> rfl) HS64 (Nat.le_of_ble_eq_true rfl) (by kernel_rfl) ?_)
    intro W65 HS66
    refine ⟨(Sg.g1 (Sx.of [[(b55, .cells #[.int .i64 vid7, .int .i64 vat8.X, .int .i64 vat8.Y, .int .i64 vat8.Z, .int .i64 vt26, .slice none 0 0, .int .i64 0, .int .i64 (-17592186044416), .int .i64 17592186044416] 62 (0, 0))], [(b1, .cells #[.slice A4 s3.L.length c5, .int .i64 vt27] 33 (0, 0))]] L61 HS66) (fun hl_ => Bool.noConfusion (show true = false from hl_))), ?_⟩
    refine hR41 _ _ ?_
    exact J42 f60 b55 W65 _ L61 HS66 (by kernel_rfl)

set_option maxRecDepth 100000 in
set_option maxHeartbeats 4000000 in
theorem sky_head.calls (k : Nat) (b1 : Nat) (seen3 : List (Int × Bool)) (vid4 : Int) (rate5 : Int) {t w : World} {f : FM} {H : List Seg} (HS : St t w f ([(b1, mobj .i64 Value.bool seen3)] :: H)) (r1 : Int) (r2 : List (Int × Bool)) (h : sky_head k seen3 vid4 rate5 = some (r1, r2)) :
    Calls Try.prog 60 #[.int .i64 vid4, .int .i64 rate5, .map (some b1)] w (fun e w' => ∃ (g : FM), e = .returned (Value.int .i64 r1) ∧ FM.le f g ∧ St t w' g ([(b1, mobj .i64 Value.bool r2)] :: H)) := by
  unfold sky_head at h
  refine enter Try.func60 rfl (tm := #[iV vid4, iV rate5, .map (some b1), uV, uV, uV, uV, uV, uV, uV, uV, uV, uV, uV, uV, uV, uV, uV, uV, uV, uV, uV, uV, uV, uV, uV, uV]) (by kernel_rfl) ?_
  intro B hret hnor hnp
  refine wp_seq_k (fun K6 hK7 => ?_)
  refine wp_region_lit ?_
  refine seqS1 (a' := ⟨#[iV vid4, iV rate5, .map (some b1), uV, uV, uV, iV 0, uV, uV, uV, uV, uV, uV, uV, uV, uV, uV, uV, uV, uV, uV, uV, uV, uV, uV, uV, uV], []⟩) (by kernel_rfl) ?_
  refine wpList_nil ?_
  refine hK7 _ _ ?_
  refine wp_seq_k (fun K8 hK9 => ?_)
  refine blockK (fun B10 hx11 hn12 hr13 ho14 hp15 => ?_)
  refine wp_seq_k (fun K17 hK18 => ?_)
  refine wp_region_lit ?_
  refine seqS3 (a' := ⟨#[iV vid4, iV rate5, .map (some b1), uV, uV, uV, iV 0, uV, iV vid4, .bool (decide (vid4 < 1)), .bool (decide (vid4 < 1)), uV, uV, uV, uV, uV, uV, uV, uV, uV, uV, uV, uV, uV, uV, uV, uV], []⟩) (by kernel_rfl) ?_
  have hq_ := ite_some h; clear h; rcases hq_ with ⟨c19, h⟩ | ⟨c19, h⟩
  · have c19 : vid4 < 1 := c19
    refine seqRwI 9 (x := (decide (vid4 < 1))) (v := true) (by kernel_rfl) (decide_eq_true c19) ?_
    refine seqRwI 10 (x := (decide (vid4 < 1))) (v := true) (by kernel_rfl) (decide_eq_true c19) ?_
    refine seqS4 (a' := ⟨#[iV vid4, iV rate5, .map (some b1), uV, uV, uV, iV 0, .bool true, iV vid4, .bool true, .bool true, uV, uV, .bool true, uV, uV, uV, uV, uV, uV, uV, uV, uV, uV, uV, uV, uV], []⟩) (by kernel_rfl) ?_
    refine wpList_nil ?_
    refine hK18 _ _ ?_
    refine condT (by kernel_rfl) ?_
    refine wp_seq_k (fun K20 hK21 => ?_)
    refine wp_region_lit ?_
    refine seqS1 (a' := ⟨#[iV vid4, iV rate5, .map (some b1), uV, uV, uV, iV 4, .bool true, iV vid4, .bool true, .bool true, uV, uV, .bool true, uV, uV, uV, uV, uV, uV, uV, uV, uV, uV, uV, uV, uV], []⟩) (by kernel_rfl) ?_
    refine wpList_nil ?_
    refine hK21 _ _ ?_
    refine wp_ret ?_
    refine hr13 _ _ ?_
    refine hret _ _ ?_
    refine ends_still (v := Value.int .i64 4) (by kernel_rfl) (by kernel_rfl) ?_
    injection h with h
    injection h with h0_ h
    subst h0_ h
    exact ⟨f, rfl, FM.le.refl _, HS⟩
  · have c19 : ¬ (vid4 < 1) := c19
    refine seqRwI 9 (x := (decide (vid4 < 1))) (v := false) (by kernel_rfl) (decide_eq_false c19) ?_
    refine seqRwI 10 (x := (decide (vid4 < 1))) (v := false) (by kernel_rfl) (decide_eq_false c19) ?_
    refine seqS4 (a' := ⟨#[iV vid4, iV rate5, .map (some b1), uV, uV, uV, iV 0, .bool (decide (vid4 > 1073741824)), iV vid4, .bool false, .bool false, iV vid4, .bool (decide (vid4 > 1073741824)), .bool (decide (vid4 > 1073741824)), uV, uV, uV, uV, uV, uV, uV, uV, uV, uV, uV, uV, uV], []⟩) (by kernel_rfl) ?_
    refine wpList_nil ?_
    refine hK18 _ _ ?_
    have hq_ := ite_some h; clear h; rcases hq_ with ⟨c23, h⟩ | ⟨c23, h⟩
    · have c23 : vid4 > 1073741824 := c23
      refine wpRwI 7 (x := (decide (vid4 > 1073741824))) (v := true) (by kernel_rfl) (decide_eq_true c23) ?_
      refine wpRwI 12 (x := (decide (vid4 > 1073741824))) (v := true) (by kernel_rfl) (decide_eq_true c23) ?_
      refine wpRwI 13 (x := (decide (vid4 > 1073741824))) (v := true) (by kernel_rfl) (decide_eq_true c23) ?_
      refine condT (by kernel_rfl) ?_
      refine wp_seq_k (fun K24 hK25 => ?_)
      refine wp_region_lit ?_
      refine seqS1 (a' := ⟨#[iV vid4, iV rate5, .map (some b1), uV, uV, uV, iV 4, .bool true, iV vid4, .bool false, .bool false, iV vid4, .bool true, .bool true, uV, uV, uV, uV, uV, uV, uV, uV, uV, uV, uV, uV, uV], []⟩) (by kernel_rfl) ?_
      refine wpList_nil ?_
      refine hK25 _ _ ?_
      refine wp_ret ?_
      refine hr13 _ _ ?_
      refine hret _ _ ?_
      refine ends_still (v := Value.int .i64 4) (by kernel_rfl) (by kernel_rfl) ?_
      injection h with h
      injection h with h0_ h
      subst h0_ h
      exact ⟨f, rfl, FM.le.refl _, HS⟩
    · have c23 : ¬ (vid4 > 1073741824) := c23
      refine wpRwI 7 (x := (decide (vid4 > 1073741824))) (v := false) (by kernel_rfl) (decide_eq_false c23) ?_
      refine wpRwI 12 (x := (decide (vid4 > 1073741824))) (v := false) (by kernel_rfl) (decide_eq_false c23) ?_
      refine wpRwI 13 (x := (decide (vid4 > 1073741824))) (v := false) (by kernel_rfl) (decide_eq_false c23) ?_
      refine condF (by kernel_rfl) ?_
      refine wp_seq_k (fun K26 hK27 => ?_)
      refine wp_region_lit ?_
      refine seqL2 (by kernel_rfl) ?_
      refine seqK rfl (does_run (run_lookup (κ := .i64) (vf := Value.bool) (z := false) rfl Try.underlying110 Try.underlying3 (by kernel_rfl) (by kernel_rfl : _ = Value.map (some b1)) (by kernel_rfl : _ = Value.int .i64 vid4) (HS.blk)) ?_)
      refine seqS1 (a' := ⟨#[iV vid4, iV rate5, .map (some b1), uV, uV, uV, iV 0, .bool false, iV vid4, .bool false, .bool false, iV vid4, .bool false, .bool false, .bool (mget false seen3 vid4), .map (some b1), iV vid4, .bool (mget false seen3 vid4), uV, uV, uV, uV, uV, uV, uV, uV, uV], []⟩) (by kernel_rfl) ?_
      refine wpList_nil ?_
      refine hK27 _ _ ?_
      have hq_ := ite_some h; clear h; rcases hq_ with ⟨c29, h⟩ | ⟨c29, h⟩
      · have c29 : (mget false seen3 vid4) = true := c29
        refine wpRwI 14 (x := (mget false seen3 vid4)) (v := true) (by kernel_rfl) c29 ?_
        refine wpRwI 17 (x := (mget false seen3 vid4)) (v := true) (by kernel_rfl) c29 ?_
        refine condT (by kernel_rfl) ?_
        refine wp_seq_k (fun K30 hK31 => ?_)
        refine wp_region_lit ?_
        refine seqS1 (a' := ⟨#[iV vid4, iV rate5, .map (some b1), uV, uV, uV, iV 7, .bool false, iV vid4, .bool false, .bool false, iV vid4, .bool false, .bool false, .bool true, .map (some b1), iV vid4, .bool true, uV, uV, uV, uV, uV, uV, uV, uV, uV], []⟩) (by kernel_rfl) ?_
        refine wpList_nil ?_
        refine hK31 _ _ ?_
        refine wp_ret ?_
        refine hr13 _ _ ?_
        refine hret _ _ ?_
        refine ends_still (v := Value.int .i64 7) (by kernel_rfl) (by kernel_rfl) ?_
        injection h with h
        injection h with h0_ h
        subst h0_ h
        exact ⟨f, rfl, FM.le.refl _, HS⟩
      · have c29 : ¬ ((mget false seen3 vid4) = true) := c29
        refine wpRwI 14 (x := (mget false seen3 vid4)) (v := false) (by kernel_rfl) (Bool.eq_false_iff.mpr c29) ?_
        refine wpRwI 17 (x := (mget false seen3 vid4)) (v := false) (by kernel_rfl) (Bool.eq_false_iff.mpr c29) ?_
        refine condF (by kernel_rfl) ?_
        refine wp_seq_k (fun K32 hK33 => ?_)
        refine wp_region_lit ?_
        refine seqS3 (a' := ⟨#[iV vid4, iV rate5, .map (some b1), uV, uV, uV, iV 0, .bool false, iV vid4, .bool false, .bool false, iV vid4, .bool false, .bool false, .bool false, .map (some b1), iV vid4, .bool false, uV, iV rate5, .bool (decide (rate5 < 0)), .bool (decide (rate5 < 0)), uV, uV, uV, uV, uV], []⟩) (by kernel_rfl) ?_
        have hq_ := ite_some h; clear h; rcases hq_ with ⟨c34, h⟩ | ⟨c34, h⟩
        · have c34 : rate5 < 0 := c34
          refine seqRwI 20 (x := (decide (rate5 < 0))) (v := true) (by kernel_rfl) (decide_eq_true c34) ?_
          refine seqRwI 21 (x := (decide (rate5 < 0))) (v := true) (by kernel_rfl) (decide_eq_true c34) ?_
          refine seqS4 (a' := ⟨#[iV vid4, iV rate5, .map (some b1), uV, uV, uV, iV 0, .bool false, iV vid4, .bool false, .bool false, iV vid4, .bool false, .bool false, .bool false, .map (some b1), iV vid4, .bool false, .bool true, iV rate5, .bool true, .bool true, uV, uV, .bool true, uV, uV], []⟩) (by kernel_rfl) ?_
          refine wpList_nil ?_
          refine hK33 _ _ ?_
          refine condT (by kernel_rfl) ?_
          refine wp_seq_k (fun K35 hK36 => ?_)
          refine wp_region_lit ?_
          refine seqS1 (a' := ⟨#[iV vid4, iV rate5, .map (some b1), uV, uV, uV, iV 4, .bool false, iV vid4, .bool false, .bool false, iV vid4, .bool false, .bool false, .bool false, .map (some b1), iV vid4, .bool false, .bool true, iV rate5, .bool true, .bool true, uV, uV, .bool true, uV, uV], []⟩) (by kernel_rfl) ?_
          refine wpList_nil ?_
          refine hK36 _ _ ?_
          refine wp_ret ?_
          refine hr13 _ _ ?_
          refine hret _ _ ?_
          refine ends_still (v := Value.int .i64 4) (by kernel_rfl) (by kernel_rfl) ?_
          injection h with h
          injection h with h0_ h
          subst h0_ h
          exact ⟨f, rfl, FM.le.refl _, HS⟩
        · have c34 : ¬ (rate5 < 0) := c34
          refine seqRwI 20 (x := (decide (rate5 < 0))) (v := false) (by kernel_rfl) (decide_eq_false c34) ?_
          refine seqRwI 21 (x := (decide (rate5 < 0))) (v := false) (by kernel_rfl) (decide_eq_false c34) ?_
          refine seqS4 (a' := ⟨#[iV vid4, iV rate5, .map (some b1), uV, uV, uV, iV 0, .bool false, iV vid4, .bool false, .bool false, iV vid4, .bool false, .bool false, .bool false, .map (some b1), iV vid4, .bool false, .bool (decide (rate5 > 1048576)), iV rate5, .bool false, .bool false, iV rate5, .bool (decide (rate5 > 1048576)), .bool (decide (rate5 > 1048576)), uV, uV], []⟩) (by kernel_rfl) ?_
          refine wpList_nil ?_
          refine hK33 _ _ ?_
          have hq_ := ite_some h; clear h; rcases hq_ with ⟨c38, h⟩ | ⟨c38, h⟩
          · have c38 : rate5 > 1048576 := c38
            refine wpRwI 18 (x := (decide (rate5 > 1048576))) (v := true) (by kernel_rfl) (decide_eq_true c38) ?_
            refine wpRwI 23 (x := (decide (rate5 > 1048576))) (v := true) (by kernel_rfl) (decide_eq_true c38) ?_
            refine wpRwI 24 (x := (decide (rate5 > 1048576))) (v := true) (by kernel_rfl) (decide_eq_true c38) ?_
            refine condT (by kernel_rfl) ?_
            refine wp_seq_k (fun K39 hK40 => ?_)
            refine wp_region_lit ?_
            refine seqS1 (a' := ⟨#[iV vid4, iV rate5, .map (some b1), uV, uV, uV, iV 4, .bool false, iV vid4, .bool false, .bool false, iV vid4, .bool false, .bool false, .bool false, .map (some b1), iV vid4, .bool false, .bool true, iV rate5, .bool false, .bool false, iV rate5, .bool true, .bool true, uV, uV], []⟩) (by kernel_rfl) ?_
            refine wpList_nil ?_
            refine hK40 _ _ ?_
            refine wp_ret ?_
            refine hr13 _ _ ?_
            refine hret _ _ ?_
            refine ends_still (v := Value.int .i64 4) (by kernel_rfl) (by kernel_rfl) ?_
            injection h with h
            injection h with h0_ h
            subst h0_ h
            exact ⟨f, rfl, FM.le.refl _, HS⟩
          · have c38 : ¬ (rate5 > 1048576) := c38
            refine wpRwI 18 (x := (decide (rate5 > 1048576))) (v := false) (by kernel_rfl) (decide_eq_false c38) ?_
            refine wpRwI 23 (x := (decide (rate5 > 1048576))) (v := false) (by kernel_rfl) (decide_eq_false c38) ?_
            refine wpRwI 24 (x := (decide (rate5 > 1048576))) (v := false) (by kernel_rfl) (decide_eq_false c38) ?_
            refine condF (by kernel_rfl) ?_
            refine wp_skip ?_
            refine hn12 _ _ ?_
            refine hK9 _ _ ?_
            refine wp_seq_k (fun K41 hK42 => ?_)
            refine wp_region_lit ?_
            refine seqL2 (by kernel_rfl) ?_
            refine seqK rfl (does_mapUpdate (κ := .i64) (vf := Value.bool) (v := true) rfl Try.underlying110 Try.underlying3 (by kernel_rfl : _ = Value.map (some b1)) (by kernel_rfl : _ = Value.int .i64 vid4) (by kernel_rfl : _ = Value.bool true) HS ?_)
            intro W43 HS44
            refine wpList_nil ?_
            refine hK42 _ _ ?_
            refine wp_seq_k (fun K45 hK46 => ?_)
            refine wp_region_lit ?_
            refine seqS1 (a' := ⟨#[iV vid4, iV rate5, .map (some b1), uV, uV, uV, iV 0, .bool false, iV vid4, .bool false, .bool false, iV vid4, .bool false, .bool false, .bool false, .map (some b1), iV vid4, .bool false, .bool false, iV rate5, .bool false, .bool false, iV rate5, .bool false, .bool false, .map (some b1), iV vid4], []⟩) (by kernel_rfl) ?_
            refine wpList_nil ?_
            refine hK46 _ _ ?_
            refine wp_ret ?_
            refine hret _ _ ?_
            refine ends_still (v := Value.int .i64 0) (by kernel_rfl) (by kernel_rfl) ?_
            injection h with h
            injection h with h0_ h
            subst h0_ h
            exact ⟨f, rfl, FM.le.refl _, HS44⟩

set_option maxRecDepth 100000 in
set_option maxHeartbeats 4000000 in
theorem sphere_Check.calls (k : Nat)  (v1 : S_Vec) {t w : World} {f : FM} {H : List Seg} (HS : St t w f (H)) (r1 : Int) (h : sphere_Check k v1 = some r1) :
    Calls Try.prog 65 #[.agg #[.int .i64 v1.X, .int .i64 v1.Y, .int .i64 v1.Z]] w (fun e w' => ∃ (g : FM), e = .returned (Value.int .i64 r1) ∧ FM.le f g ∧ St t w' g (H)) := by
  unfold sphere_Check at h
  refine enter Try.func65 rfl (tm := #[.agg #[iV v1.X, iV v1.Y, iV v1.Z], uV, uV, uV, uV, uV, uV, uV, uV, uV, uV, uV, uV, uV, uV, uV, uV, uV, uV, uV, uV, uV, uV, uV, uV, uV]) (by kernel_rfl) ?_
  intro B hret hnor hnp
  refine wp_seq_k (fun K2 hK3 => ?_)
  refine wp_region_lit ?_
  refine seqK rfl (does_box (cs := #[.int .i64 v1.X, .int .i64 v1.Y, .int .i64 v1.Z]) rfl (by kernel_rfl : _ = Value.agg #[.int .i64 v1.X, .int .i64 v1.Y, .int .i64 v1.Z]) rfl HS ?_)
  intro b4 W5 HS6
  refine seqS1 (a' := ⟨#[.agg #[iV v1.X, iV v1.Y, iV v1.Z], .pointer (some ⟨b4, 0, none⟩), iV 0, uV, uV, uV, uV, uV, uV, uV, uV, uV, uV, uV, uV, uV, uV, uV, uV, uV, uV, uV, uV, uV, uV, uV], []⟩) (by kernel_rfl) ?_
  refine wpList_nil ?_
  refine hK3 _ _ ?_
  refine wp_seq_k (fun K8 hK9 => ?_)
  refine blockK (fun B10 hx11 hn12 hr13 ho14 hp15 => ?_)
  refine wp_seq_k (fun K17 hK18 => ?_)
  refine wp_region_lit ?_
  refine seqL1 (by kernel_rfl) ?_
  refine seqK rfl (does_run (run_load rfl Try.underlying2 rfl (by kernel_rfl : _ = Value.pointer (some ⟨b4, 0, none⟩)) (HS6.cell 0)) ?_)
  refine seqL1 (by kernel_rfl) ?_
  refine seqK rfl (does_run (run_load rfl Try.underlying2 rfl (by kernel_rfl : _ = Value.pointer (some ⟨b4, 1, none⟩)) (HS6.cell 1)) ?_)
  refine seqL1 (by kernel_rfl) ?_
  refine seqK rfl (does_run (run_load rfl Try.underlying2 rfl (by kernel_rfl : _ = Value.pointer (some ⟨b4, 2, none⟩)) (HS6.cell 2)) ?_)
  refine seqS3 (a' := ⟨#[.agg #[iV v1.X, iV v1.Y, iV v1.Z], .pointer (some ⟨b4, 0, none⟩), iV 0, uV, .pointer (some ⟨b4, 0, none⟩), iV v1.X, .pointer (some ⟨b4, 1, none⟩), iV v1.Y, .pointer (some ⟨b4, 2, none⟩), iV v1.Z, iV (mx (mx v1.X v1.Y) v1.Z), .bool (decide ((mx (mx v1.X v1.Y) v1.Z) > 1048576)), .bool (decide ((mx (mx v1.X v1.Y) v1.Z) > 1048576)), uV, uV, uV, uV, uV, uV, uV, uV, uV, uV, uV, uV, uV], []⟩) (by kernel_rfl) ?_
  have hq_ := ite_some h; clear h; rcases hq_ with ⟨c19, h⟩ | ⟨c19, h⟩
  · have c19 : (mx (mx v1.X v1.Y) v1.Z) > 1048576 := c19
    refine seqRwI 11 (x := (decide ((mx (mx v1.X v1.Y) v1.Z) > 1048576))) (v := true) (by kernel_rfl) (decide_eq_true c19) ?_
    refine seqRwI 12 (x := (decide ((mx (mx v1.X v1.Y) v1.Z) > 1048576))) (v := true) (by kernel_rfl) (decide_eq_true c19) ?_
    refine seqS10 (a' := ⟨#[.agg #[iV v1.X, iV v1.Y, iV v1.Z], .pointer (some ⟨b4, 0, none⟩), iV 0, .bool true, .pointer (some ⟨b4, 0, none⟩), iV v1.X, .pointer (some ⟨b4, 1, none⟩), iV v1.Y, .pointer (some ⟨b4, 2, none⟩), iV v1.Z, iV (mx (mx v1.X v1.Y) v1.Z), .bool true, .bool true, uV, uV, uV, uV, uV, uV, uV, uV, .bool true, uV, uV, uV, uV], []⟩) (by kernel_rfl) ?_
    refine wpList_nil ?_
    refine hK18 _ _ ?_
    refine condT (by kernel_rfl) ?_
    refine wp_seq_k (fun K20 hK21 => ?_)
    refine wp_region_lit ?_
    refine seqS1 (a' := ⟨#[.agg #[iV v1.X, iV v1.Y, iV v1.Z], .pointer (some ⟨b4, 0, none⟩), iV 4, .bool true, .pointer (some ⟨b4, 0, none⟩), iV v1.X, .pointer (some ⟨b4, 1, none⟩), iV v1.Y, .pointer (some ⟨b4, 2, none⟩), iV v1.Z, iV (mx (mx v1.X v1.Y) v1.Z), .bool true, .bool true, uV, uV, uV, uV, uV, uV, uV, uV, .bool true, uV, uV, uV, uV], []⟩) (by kernel_rfl) ?_
    refine wpList_nil ?_
    refine hK21 _ _ ?_
    refine wp_ret ?_
    refine hr13 _ _ ?_
    refine hret _ _ ?_
    refine ends_still (v := Value.int .i64 4) (by kernel_rfl) (by kernel_rfl) ?_
    have HS34 := HS6.drop
    injection h with h
    subst h
    exact ⟨f, rfl, FM.le.refl _, HS34⟩
  · have c19 : ¬ ((mx (mx v1.X v1.Y) v1.Z) > 1048576) := c19
    refine seqRwI 11 (x := (decide ((mx (mx v1.X v1.Y) v1.Z) > 1048576))) (v := false) (by kernel_rfl) (decide_eq_false c19) ?_
    refine seqRwI 12 (x := (decide ((mx (mx v1.X v1.Y) v1.Z) > 1048576))) (v := false) (by kernel_rfl) (decide_eq_false c19) ?_
    refine seqL1 (by kernel_rfl) ?_
    refine seqG (by kernel_rfl) (does_run (run_load rfl Try.underlying2 rfl (by kernel_rfl : _ = Value.pointer (some ⟨b4, 0, none⟩)) (HS6.cell 0)) ?_)
    refine seqL1 (by kernel_rfl) ?_
    refine seqG (by kernel_rfl) (does_run (run_load rfl Try.underlying2 rfl (by kernel_rfl : _ = Value.pointer (some ⟨b4, 1, none⟩)) (HS6.cell 1)) ?_)
    refine seqL1 (by kernel_rfl) ?_
    refine seqG (by kernel_rfl) (does_run (run_load rfl Try.underlying2 rfl (by kernel_rfl : _ = Value.pointer (some ⟨b4, 2, none⟩)) (HS6.cell 2)) ?_)
    refine seqS4 (a' := ⟨#[.agg #[iV v1.X, iV v1.Y, iV v1.Z], .pointer (some ⟨b4, 0, none⟩), iV 0, .bool (decide ((mn (mn v1.X v1.Y) v1.Z) < (-1048576))), .pointer (some ⟨b4, 0, none⟩), iV v1.X, .pointer (some ⟨b4, 1, none⟩), iV v1.Y, .pointer (some ⟨b4, 2, none⟩), iV v1.Z, iV (mx (mx v1.X v1.Y) v1.Z), .bool false, .bool false, .pointer (some ⟨b4, 0, none⟩), iV v1.X, .pointer (some ⟨b4, 1, none⟩), iV v1.Y, .pointer (some ⟨b4, 2, none⟩), iV v1.Z, iV (mn (mn v1.X v1.Y) v1.Z), .bool (decide ((mn (mn v1.X v1.Y) v1.Z) < (-1048576))), .bool (decide ((mn (mn v1.X v1.Y) v1.Z) < (-1048576))), uV, uV, uV, uV], []⟩) (by kernel_rfl) ?_
    refine wpList_nil ?_
    refine hK18 _ _ ?_
    have hq_ := ite_some h; clear h; rcases hq_ with ⟨c23, h⟩ | ⟨c23, h⟩
    · have c23 : (mn (mn v1.X v1.Y) v1.Z) < (-1048576) := c23
      refine wpRwI 3 (x := (decide ((mn (mn v1.X v1.Y) v1.Z) < (-1048576)))) (v := true) (by kernel_rfl) (decide_eq_true c23) ?_
      refine wpRwI 20 (x := (decide ((mn (mn v1.X v1.Y) v1.Z) < (-1048576)))) (v := true) (by kernel_rfl) (decide_eq_true c23) ?_
      refine wpRwI 21 (x := (decide ((mn (mn v1.X v1.Y) v1.Z) < (-1048576)))) (v := true) (by kernel_rfl) (decide_eq_true c23) ?_
      refine condT (by kernel_rfl) ?_
      refine wp_seq_k (fun K24 hK25 => ?_)
      refine wp_region_lit ?_
      refine seqS1 (a' := ⟨#[.agg #[iV v1.X, iV v1.Y, iV v1.Z], .pointer (some ⟨b4, 0, none⟩), iV 4, .bool true, .pointer (some ⟨b4, 0, none⟩), iV v1.X, .pointer (some ⟨b4, 1, none⟩), iV v1.Y, .pointer (some ⟨b4, 2, none⟩), iV v1.Z, iV (mx (mx v1.X v1.Y) v1.Z), .bool false, .bool false, .pointer (some ⟨b4, 0, none⟩), iV v1.X, .pointer (some ⟨b4, 1, none⟩), iV v1.Y, .pointer (some ⟨b4, 2, none⟩), iV v1.Z, iV (mn (mn v1.X v1.Y) v1.Z), .bool true, .bool true, uV, uV, uV, uV], []⟩) (by kernel_rfl) ?_
      refine wpList_nil ?_
      refine hK25 _ _ ?_
      refine wp_ret ?_
      refine hr13 _ _ ?_
      refine hret _ _ ?_
      refine ends_still (v := Value.int .i64 4) (by kernel_rfl) (by kernel_rfl) ?_
      have HS35 := HS6.drop
      injection h with h
      subst h
      exact ⟨f, rfl, FM.le.refl _, HS35⟩
    · have c23 : ¬ ((mn (mn v1.X v1.Y) v1.Z) < (-1048576)) := c23
      refine wpRwI 3 (x := (decide ((mn (mn v1.X v1.Y) v1.Z) < (-1048576)))) (v := false) (by kernel_rfl) (decide_eq_false c23) ?_
      refine wpRwI 20 (x := (decide ((mn (mn v1.X v1.Y) v1.Z) < (-1048576)))) (v := false) (by kernel_rfl) (decide_eq_false c23) ?_
      refine wpRwI 21 (x := (decide ((mn (mn v1.X v1.Y) v1.Z) < (-1048576)))) (v := false) (by kernel_rfl) (decide_eq_false c23) ?_
      refine condF (by kernel_rfl) ?_
      refine wp_seq_k (fun K26 hK27 => ?_)
      refine wp_region_lit ?_
      refine seqK rfl (does_run (run_loadN (n := 3) rfl Try.underlying23 rfl (by kernel_rfl) (by kernel_rfl : _ = Value.pointer (some ⟨b4, 0, none⟩)) (cs := [.int .i64 v1.X, .int .i64 v1.Y, .int .i64 v1.Z]) rfl (HS6.cells 0 3 _ rfl)) ?_)
      refine seqL1 (by kernel_rfl) ?_
      refine seqK rfl (does_run (run_eqS (b := ((v1.X == 0) && ((v1.Y == 0) && ((v1.Z == 0) && true)))) rfl (by kernel_rfl : _ = Value.agg #[.int .i64 v1.X, .int .i64 v1.Y, .int .i64 v1.Z]) (by kernel_rfl : _ = Value.agg #[.int .i64 0, .int .i64 0, .int .i64 0]) (by kernel_rfl) (by kernel_rfl) W5) ?_)
      refine seqS1 (a' := ⟨#[.agg #[iV v1.X, iV v1.Y, iV v1.Z], .pointer (some ⟨b4, 0, none⟩), iV 0, .bool false, .pointer (some ⟨b4, 0, none⟩), iV v1.X, .pointer (some ⟨b4, 1, none⟩), iV v1.Y, .pointer (some ⟨b4, 2, none⟩), iV v1.Z, iV (mx (mx v1.X v1.Y) v1.Z), .bool false, .bool false, .pointer (some ⟨b4, 0, none⟩), iV v1.X, .pointer (some ⟨b4, 1, none⟩), iV v1.Y, .pointer (some ⟨b4, 2, none⟩), iV v1.Z, iV (mn (mn v1.X v1.Y) v1.Z), .bool false, .bool false, .bool ((v1.X == 0) && ((v1.Y == 0) && ((v1.Z == 0) && true))), .agg #[iV v1.X, iV v1.Y, iV v1.Z], .agg #[iV 0, iV 0, iV 0], .bool ((v1.X == 0) && ((v1.Y == 0) && ((v1.Z == 0) && true)))], []⟩) (by kernel_rfl) ?_
      refine wpList_nil ?_
      refine hK27 _ _ ?_
      have hq_ := ite_some h; clear h; rcases hq_ with ⟨c29, h⟩ | ⟨c29, h⟩
      · have c29 : ((v1.X == 0) && ((v1.Y == 0) && ((v1.Z == 0) && true))) = true := c29
        refine wpRwI 22 (x := ((v1.X == 0) && ((v1.Y == 0) && ((v1.Z == 0) && true)))) (v := true) (by kernel_rfl) c29 ?_
        refine wpRwI 25 (x := ((v1.X == 0) && ((v1.Y == 0) && ((v1.Z == 0) && true)))) (v := true) (by kernel_rfl) c29 ?_
        refine condT (by kernel_rfl) ?_
        refine wp_seq_k (fun K30 hK31 => ?_)
        refine wp_region_lit ?_
        refine seqS1 (a' := ⟨#[.agg #[iV v1.X, iV v1.Y, iV v1.Z], .pointer (some ⟨b4, 0, none⟩), iV 8, .bool false, .pointer (some ⟨b4, 0, none⟩), iV v1.X, .pointer (some ⟨b4, 1, none⟩), iV v1.Y, .pointer (some ⟨b4, 2, none⟩), iV v1.Z, iV (mx (mx v1.X v1.Y) v1.Z), .bool false, .bool false, .pointer (some ⟨b4, 0, none⟩), iV v1.X, .pointer (some ⟨b4, 1, none⟩), iV v1.Y, .pointer (some ⟨b4, 2, none⟩), iV v1.Z, iV (mn (mn v1.X v1.Y) v1.Z), .bool false, .bool false, .bool true, .agg #[iV v1.X, iV v1.Y, iV v1.Z], .agg #[iV 0, iV 0, iV 0], .bool true], []⟩) (by kernel_rfl) ?_
        refine wpList_nil ?_
        refine hK31 _ _ ?_
        refine wp_ret ?_
        refine hr13 _ _ ?_
        refine hret _ _ ?_
        refine ends_still (v := Value.int .i64 8) (by kernel_rfl) (by kernel_rfl) ?_
        have HS36 := HS6.drop
        injection h with h
        subst h
        exact ⟨f, rfl, FM.le.refl _, HS36⟩
      · have c29 : ¬ (((v1.X == 0) && ((v1.Y == 0) && ((v1.Z == 0) && true))) = true) := c29
        refine wpRwI 22 (x := ((v1.X == 0) && ((v1.Y == 0) && ((v1.Z == 0) && true)))) (v := false) (by kernel_rfl) (Bool.eq_false_iff.mpr c29) ?_
        refine wpRwI 25 (x := ((v1.X == 0) && ((v1.Y == 0) && ((v1.Z == 0) && true)))) (v := false) (by kernel_rfl) (Bool.eq_false_iff.mpr c29) ?_
        refine condF (by kernel_rfl) ?_
        refine wp_skip ?_
        refine hn12 _ _ ?_
        refine hK9 _ _ ?_
        refine wp_seq_k (fun K32 hK33 => ?_)
        refine wp_region_lit ?_
        refine seqS1 (a' := ⟨#[.agg #[iV v1.X, iV v1.Y, iV v1.Z], .pointer (some ⟨b4, 0, none⟩), iV 0, .bool false, .pointer (some ⟨b4, 0, none⟩), iV v1.X, .pointer (some ⟨b4, 1, none⟩), iV v1.Y, .pointer (some ⟨b4, 2, none⟩), iV v1.Z, iV (mx (mx v1.X v1.Y) v1.Z), .bool false, .bool false, .pointer (some ⟨b4, 0, none⟩), iV v1.X, .pointer (some ⟨b4, 1, none⟩), iV v1.Y, .pointer (some ⟨b4, 2, none⟩), iV v1.Z, iV (mn (mn v1.X v1.Y) v1.Z), .bool false, .bool false, .bool false, .agg #[iV v1.X, iV v1.Y, iV v1.Z], .agg #[iV 0, iV 0, iV 0], .bool false], []⟩) (by kernel_rfl) ?_
        refine wpList_nil ?_
        refine hK33 _ _ ?_
        refine wp_ret ?_
        refine hret _ _ ?_
        refine ends_still (v := Value.int .i64 0) (by kernel_rfl) (by kernel_rfl) ?_
        have HS37 := HS6.drop
        injection h with h
        subst h
        exact ⟨f, rfl, FM.le.refl _, HS37⟩

set_option maxRecDepth 100000 in
set_option maxHeartbeats 4000000 in
theorem sky_star_1.calls (k : Nat) (b1 : Nat) (A4 : Option Addr) (c5 : Nat) (v3 : S_Star) (q7 : Int) {t w : World} {f : FM} {H : List Seg} (HS : St t w f ([(b1, .cells #[.int .i64 v3.ID, .int .i64 v3.At.X, .int .i64 v3.At.Y, .int .i64 v3.At.Z, .int .i64 v3.Rate, .slice A4 v3.Wave.length c5, .int .i64 v3.Period, .int .i64 v3.From, .int .i64 v3.To] 62 (0, 0))] :: H)) (HR6 : SlR (tInt .i64) f A4 c5 v3.Wave) (r1 : Bool) (h : sky_star_1 k v3 q7 = some r1) :
    Calls Try.prog 67 #[.int .i64 q7, .pointer (some ⟨b1, 0, none⟩)] w (fun e w' => ∃ (g : FM), e = .returned (Value.bool r1) ∧ FM.le f g ∧ St t w' g ([(b1, .cells #[.int .i64 v3.ID, .int .i64 v3.At.X, .int .i64 v3.At.Y, .int .i64 v3.At.Z, .int .i64 v3.Rate, .slice A4 v3.Wave.length c5, .int .i64 v3.Period, .int .i64 v3.From, .int .i64 v3.To] 62 (0, 0))] :: H)) := by
  unfold sky_star_1 at h
  refine enter Try.func67 rfl (tm := #[iV q7, .pointer (some ⟨b1, 0, none⟩), uV, uV, uV, uV, uV, uV, uV, uV, uV, uV, uV]) (by kernel_rfl) ?_
  intro B hret hnor hnp
  refine wp_seq_k (fun K8 hK9 => ?_)
  refine wp_region_lit ?_
  refine seqS1 (a' := ⟨#[iV q7, .pointer (some ⟨b1, 0, none⟩), uV, .bool false, uV, uV, uV, uV, uV, uV, uV, uV, uV], []⟩) (by kernel_rfl) ?_
  refine wpList_nil ?_
  refine hK9 _ _ ?_
  refine wp_seq_k (fun K10 hK11 => ?_)
  refine wp_region_lit ?_
  refine seqS3 (a' := ⟨#[iV q7, .pointer (some ⟨b1, 0, none⟩), uV, .bool false, iV q7, .bool (decide (q7 < 0)), .bool (decide (q7 < 0)), uV, uV, uV, uV, uV, uV], []⟩) (by kernel_rfl) ?_
  have hq_ := ite_some h; clear h; rcases hq_ with ⟨c12, h⟩ | ⟨c12, h⟩
  · have c12 : q7 < 0 := c12
    refine seqRwI 5 (x := (decide (q7 < 0))) (v := true) (by kernel_rfl) (decide_eq_true c12) ?_
    refine seqRwI 6 (x := (decide (q7 < 0))) (v := true) (by kernel_rfl) (decide_eq_true c12) ?_
    refine seqS7 (a' := ⟨#[iV q7, .pointer (some ⟨b1, 0, none⟩), uV, .bool true, iV q7, .bool true, .bool true, uV, uV, uV, uV, uV, .bool true], []⟩) (by kernel_rfl) ?_
    refine wpList_nil ?_
    refine hK11 _ _ ?_
    refine wp_ret ?_
    refine hret _ _ ?_
    refine ends_still (v := Value.bool true) (by kernel_rfl) (by kernel_rfl) ?_
    injection h with h
    subst h
    exact ⟨f, rfl, FM.le.refl _, HS⟩
  · have c12 : ¬ (q7 < 0) := c12
    refine seqRwI 5 (x := (decide (q7 < 0))) (v := false) (by kernel_rfl) (decide_eq_false c12) ?_
    refine seqRwI 6 (x := (decide (q7 < 0))) (v := false) (by kernel_rfl) (decide_eq_false c12) ?_
    refine seqL2 (by kernel_rfl) ?_
    refine seqG (by kernel_rfl) (does_run (run_load rfl Try.underlying34 rfl (by kernel_rfl : _ = Value.pointer (some ⟨b1, 4, none⟩)) (HS.cell 4)) ?_)
    refine seqS4 (a' := ⟨#[iV q7, .pointer (some ⟨b1, 0, none⟩), uV, .bool (decide (q7 > (w64 (1048576 - v3.Rate)))), iV q7, .bool false, .bool false, iV q7, .pointer (some ⟨b1, 4, none⟩), iV v3.Rate, iV (w64 (1048576 - v3.Rate)), .bool (decide (q7 > (w64 (1048576 - v3.Rate)))), .bool (decide (q7 > (w64 (1048576 - v3.Rate))))], []⟩) (by kernel_rfl) ?_
    refine wpList_nil ?_
    refine hK11 _ _ ?_
    refine wp_ret ?_
    refine hret _ _ ?_
    refine ends_still (v := Value.bool (decide (q7 > (w64 (1048576 - v3.Rate))))) (by kernel_rfl) (by kernel_rfl) ?_
    injection h with h
    subst h
    exact ⟨f, rfl, FM.le.refl _, HS⟩

set_option maxRecDepth 100000 in
set_option maxHeartbeats 4000000 in
theorem slices_IndexFunc_Quanta__sky_star_1.calls (k : Nat) (b1 : Nat) (A4 : Option Addr) (c5 : Nat) (A8 : Option Addr) (c9 : Nat) (v3 : S_Star) (s7 : List Int) {t w : World} {f : FM} {H : List Seg} (HS : St t w f ([(b1, .cells #[.int .i64 v3.ID, .int .i64 v3.At.X, .int .i64 v3.At.Y, .int .i64 v3.At.Z, .int .i64 v3.Rate, .slice A4 v3.Wave.length c5, .int .i64 v3.Period, .int .i64 v3.From, .int .i64 v3.To] 62 (0, 0))] :: H)) (HR6 : SlR (tInt .i64) f A4 c5 v3.Wave) (HR10 : SlR (tInt .i64) f A8 c9 s7) (r1 : Int) (h : slices_IndexFunc_Quanta__sky_star_1 k v3 s7 = some r1) :
    Calls Try.prog 69 #[.slice A8 s7.length c9, .func (.func 67) #[] #[.pointer (some ⟨b1, 0, none⟩)]] w (fun e w' => ∃ (g : FM), e = .returned (Value.int .i64 r1) ∧ FM.le f g ∧ St t w' g ([(b1, .cells #[.int .i64 v3.ID, .int .i64 v3.At.X, .int .i64 v3.At.Y, .int .i64 v3.At.Z, .int .i64 v3.Rate, .slice A4 v3.Wave.length c5, .int .i64 v3.Period, .int .i64 v3.From, .int .i64 v3.To] 62 (0, 0))] :: H)) := by
  unfold slices_IndexFunc_Quanta__sky_star_1 at h
  refine enter Try.func69 rfl (tm := #[.slice A8 s7.length c9, .func (.func 67) #[] #[.pointer (some ⟨b1, 0, none⟩)], uV, uV, uV, uV, uV, uV, uV, uV, uV, uV, uV, uV, uV, uV, uV, uV, uV]) (by kernel_rfl) ?_
  intro B hret hnor hnp
  refine wp_seq_k (fun K11 hK12 => ?_)
  refine wp_region_lit ?_
  refine seqS1 (a' := ⟨#[.slice A8 s7.length c9, .func (.func 67) #[] #[.pointer (some ⟨b1, 0, none⟩)], uV, uV, iV 0, uV, uV, uV, uV, uV, uV, uV, uV, uV, uV, uV, uV, uV, uV], []⟩) (by kernel_rfl) ?_
  refine wpList_nil ?_
  refine hK12 _ _ ?_
  refine wp_seq_k (fun K13 hK14 => ?_)
  refine wp_seq_k (fun K15 hK16 => ?_)
  refine wp_region_lit ?_
  refine seqS3 (a' := ⟨#[.slice A8 s7.length c9, .func (.func 67) #[] #[.pointer (some ⟨b1, 0, none⟩)], uV, uV, iV 0, uV, .slice A8 s7.length c9, iV (s7.length : Int), iV 0, uV, uV, uV, uV, uV, uV, uV, uV, uV, uV], []⟩) (by kernel_rfl) ?_
  refine wpList_nil ?_
  refine hK16 _ _ ?_
  refine blockK (fun B17 hx18 hn19 hr20 ho21 hp22 => ?_)
  have hq_ := bind_some h; clear h; obtain ⟨o23, hv74, h⟩ := hq_
  have JR76 : ∀ z_, some (Sum.inl z_) = some o23 → some z_ = some r1 := by
    intro z_ e_; injection e_ with e_; subst e_; exact h
  have J75 : ∀ (f69 : FM) (j73 : Nat → Value) (W71 : World) (a_ : Act), FM.le f f69 → some (Sum.inr ()) = some o23 → St t W71 f69 ([(b1, .cells #[.int .i64 v3.ID, .int .i64 v3.At.X, .int .i64 v3.At.Y, .int .i64 v3.At.Z, .int .i64 v3.Rate, .slice A4 v3.Wave.length c5, .int .i64 v3.Period, .int .i64 v3.From, .int .i64 v3.To] 62 (0, 0))] :: H) → a_ = ⟨#[.slice A8 s7.length c9, .func (.func 67) #[] #[.pointer (some ⟨b1, 0, none⟩)], uV, uV, (j73 0), (j73 1), .slice A8 s7.length c9, iV (s7.length : Int), (j73 2), (j73 3), (j73 4), (j73 5), (j73 6), (j73 7), (j73 8), (j73 9), (j73 10), (j73 11), (j73 12)], []⟩ → K13 a_ W71 := by
    intro f69 j73 W71 a_ L70 hj77 HS72  hfr_; subst hfr_
    injection hj77 with hj77; subst hj77; try dsimp only at h
    simp only [Sum.elim_inr] at h
    refine hK14 _ _ ?_
    refine wp_seq_k (fun K78 hK79 => ?_)
    refine wp_region_lit ?_
    refine seqS1 (a' := ⟨#[.slice A8 s7.length c9, .func (.func 67) #[] #[.pointer (some ⟨b1, 0, none⟩)], uV, uV, iV (-1), (j73 1), .slice A8 s7.length c9, iV (s7.length : Int), (j73 2), (j73 3), (j73 4), (j73 5), (j73 6), (j73 7), (j73 8), (j73 9), (j73 10), (j73 11), (j73 12)], []⟩) (by kernel_rfl) ?_
    refine wpList_nil ?_
    refine hK79 _ _ ?_
    refine wp_ret ?_
    refine hret _ _ ?_
    refine ends_still (v := Value.int .i64 (-1)) (by kernel_rfl) (by kernel_rfl) ?_
    injection h with h
    subst h
    exact ⟨f69, rfl, L70, HS72⟩
  clear h; have h := hv74; clear hv74
  refine loopK (fun n_ a_ w_ => ∃ (f27 : FM) (x32 : Int) (j31 : Nat → Value), FM.le f f27 ∧ St t w_ f27 ([(b1, .cells #[.int .i64 v3.ID, .int .i64 v3.At.X, .int .i64 v3.At.Y, .int .i64 v3.At.Z, .int .i64 v3.Rate, .slice A4 v3.Wave.length c5, .int .i64 v3.Period, .int .i64 v3.From, .int .i64 v3.To] 62 (0, 0))] :: H) ∧ slices_IndexFunc_Quanta__sky_star_1.l0 k s7 v3 n_ x32 = some o23 ∧ a_ = ⟨#[.slice A8 s7.length c9, .func (.func 67) #[] #[.pointer (some ⟨b1, 0, none⟩)], uV, uV, (j31 0), (j31 1), .slice A8 s7.length c9, iV (s7.length : Int), iV x32, (j31 2), (j31 3), (j31 4), (j31 5), (j31 6), (j31 7), (j31 8), (j31 9), (j31 10), (j31 11)], []⟩) k ⟨f, 0, (fun i_ => [Value.int .i64 0, undef, undef, undef, undef, undef, undef, undef, undef, undef, undef, undef].getD i_ undef), (FM.le.refl _), HS, h, (by kernel_rfl)⟩ ?_
  clear h
  rintro n26 _ W29 ⟨f27, x32, j31, L28, HS30, h, rfl⟩ K24 hK25
  obtain _ | n26 := n26
  · exact nomatch h
  simp only [slices_IndexFunc_Quanta__sky_star_1.l0] at h
  refine wp_seq_k (fun K33 hK34 => ?_)
  refine wp_region_lit ?_
  refine seqS1 (a' := ⟨#[.slice A8 s7.length c9, .func (.func 67) #[] #[.pointer (some ⟨b1, 0, none⟩)], uV, uV, (j31 0), (j31 1), .slice A8 s7.length c9, iV (s7.length : Int), iV x32, .bool (decide (x32 < (s7.length : Int))), (j31 3), (j31 4), (j31 5), (j31 6), (j31 7), (j31 8), (j31 9), (j31 10), (j31 11)], []⟩) (by kernel_rfl) ?_
  refine wpList_nil ?_
  refine hK34 _ _ ?_
  refine wp_seq_k (fun K35 hK36 => ?_)
  have hq_ := ite_some h; clear h; rcases hq_ with ⟨c38, h⟩ | ⟨c38, h⟩
  · have c38 : x32 < (s7.length : Int) := c38
    refine wpRwI 9 (x := (decide (x32 < (s7.length : Int)))) (v := true) (by kernel_rfl) (decide_eq_true c38) ?_
    refine condT (by kernel_rfl) ?_
    refine wp_skip ?_
    refine hK36 _ _ ?_
    refine wp_seq_k (fun K39 hK40 => ?_)
    refine blockK (fun B41 hx42 hn43 hr44 ho45 hp46 => ?_)
    refine wp_seq_k (fun K48 hK49 => ?_)
    refine wp_region_lit ?_
    refine seqS2 (a' := ⟨#[.slice A8 s7.length c9, .func (.func 67) #[] #[.pointer (some ⟨b1, 0, none⟩)], uV, uV, (j31 0), iV x32, .slice A8 s7.length c9, iV (s7.length : Int), iV x32, .bool true, iV x32, (j31 4), (j31 5), (j31 6), (j31 7), (j31 8), (j31 9), (j31 10), (j31 11)], []⟩) (by kernel_rfl) ?_
    refine wpList_nil ?_
    refine hK49 _ _ ?_
    refine wp_seq_k (fun K50 hK51 => ?_)
    refine wp_region_lit ?_
    have hq_ := guard_some h; clear h; obtain ⟨c52, h⟩ := hq_
    have c52 : 0 ≤ x32 := c52
    obtain ⟨b56, of57, cs53, hA58, hr54, hc55⟩ := (HR10.mono L28).at (i := x32) c52 c38
    obtain rfl := hr54
    refine seqL3 (by kernel_rfl) ?_
    refine seqK rfl (does_run (run_indexE hA58 (sz := 1) rfl Try.underlying60 (by kernel_rfl) (by kernel_rfl : _ = Value.slice A8 s7.length c9) (by kernel_rfl : _ = Value.int .i64 x32) c52 c38 W29) ?_)
    refine seqK rfl (does_run (run_load rfl Try.underlying34 rfl (by kernel_rfl : _ = Value.pointer (some ⟨b56, of57 + (x32 : Int).toNat * 1, none⟩)) ((hc55 (FM.le.refl _) HS30) 0 (by decide))) ?_)
    have hq_ := bind_some h; clear h; obtain ⟨vt59, hc60, h⟩ := hq_
    refine seqK rfl (does_call (f := 67) (args := #[.int .i64 (rd s7 x32), .pointer (some ⟨b1, 0, none⟩)]) (by kernel_rfl) (sky_star_1.calls k b1 A4 c5 v3 (rd s7 x32) HS30 (HR6.mono L28) vt59 hc60) ?_)
    rintro _ W63 ⟨f61, rfl, L62, HS64⟩
    refine ⟨_, rfl, ?_⟩
    refine wpList_nil ?_
    refine hK51 _ _ ?_
    have hq_ := ite_some h; clear h; rcases hq_ with ⟨c66, h⟩ | ⟨c66, h⟩
    · have c66 : vt59 = true := c66
      refine wpRwI 16 (x := vt59) (v := true) (by kernel_rfl) c66 ?_
      refine condT (by kernel_rfl) ?_
      refine wp_seq_k (fun K67 hK68 => ?_)
      refine wp_region_lit ?_
      refine seqS2 (a' := ⟨#[.slice A8 s7.length c9, .func (.func 67) #[] #[.pointer (some ⟨b1, 0, none⟩)], uV, uV, iV x32, iV x32, .slice A8 s7.length c9, iV (s7.length : Int), iV x32, .bool true, iV x32, .func (.func 67) #[] #[.pointer (some ⟨b1, 0, none⟩)], .slice A8 s7.length c9, iV x32, .pointer (some ⟨b56, of57 + (x32 : Int).toNat * 1, none⟩), iV (rd s7 x32), .bool true, iV x32, (j31 11)], []⟩) (by kernel_rfl) ?_
      refine wpList_nil ?_
      refine hK68 _ _ ?_
      refine wp_ret ?_
      refine hr44 _ _ ?_
      refine hr20 _ _ ?_
      refine hret _ _ ?_
      refine ends_still (v := Value.int .i64 x32) (by kernel_rfl) (by kernel_rfl) ?_
      replace h := JR76 _ h
      injection h with h
      subst h
      exact ⟨f61, rfl, (L28.trans L62), HS64⟩
    · have c66 : ¬ (vt59 = true) := c66
      refine wpRwI 16 (x := vt59) (v := false) (by kernel_rfl) (Bool.eq_false_iff.mpr c66) ?_
      refine condF (by kernel_rfl) ?_
      refine wp_skip ?_
      refine hn43 _ _ ?_
      refine hK40 _ _ ?_
      refine wp_region_lit ?_
      refine seqS2 (a' := ⟨#[.slice A8 s7.length c9, .func (.func 67) #[] #[.pointer (some ⟨b1, 0, none⟩)], uV, uV, (j31 0), iV x32, .slice A8 s7.length c9, iV (s7.length : Int), iV (w64 (x32 + 1)), .bool true, iV x32, .func (.func 67) #[] #[.pointer (some ⟨b1, 0, none⟩)], .slice A8 s7.length c9, iV x32, .pointer (some ⟨b56, of57 + (x32 : Int).toNat * 1, none⟩), iV (rd s7 x32), .bool false, (j31 10), iV (w64 (x32 + 1))], []⟩) (by kernel_rfl) ?_
      refine wpList_nil ?_
      refine hK25 n26 _ _ (Nat.lt_succ_self _) ?_
      exact ⟨f61, (w64 (x32 + 1)), (fun i_ => [(j31 0), Value.int .i64 x32, Value.bool true, Value.int .i64 x32, Value.func (.func 67) #[] #[.pointer (some ⟨b1, 0, none⟩)], Value.slice A8 s7.length c9, Value.int .i64 x32, Value.pointer (some ⟨b56, of57 + (x32 : Int).toNat * 1, none⟩), Value.int .i64 (rd s7 x32), Value.bool false, (j31 10), Value.int .i64 (w64 (x32 + 1))].getD i_ undef), (L28.trans L62), HS64, h, (by kernel_rfl)⟩
  · have c38 : ¬ (x32 < (s7.length : Int)) := c38
    refine wpRwI 9 (x := (decide (x32 < (s7.length : Int)))) (v := false) (by kernel_rfl) (decide_eq_false c38) ?_
    refine condF (by kernel_rfl) ?_
    refine wp_exit ?_
    refine hx18 _ _ ?_
    exact J75 f27 (fun i_ => [(j31 0), (j31 1), Value.int .i64 x32, Value.bool false, (j31 3), (j31 4), (j31 5), (j31 6), (j31 7), (j31 8), (j31 9), (j31 10), (j31 11)].getD i_ undef) W29 _ L28 h HS30 (by kernel_rfl)

set_option maxRecDepth 100000 in
set_option maxHeartbeats 4000000 in
theorem slices_ContainsFunc_Quanta__sky_star_1.calls (k : Nat) (b1 : Nat) (A4 : Option Addr) (c5 : Nat) (A8 : Option Addr) (c9 : Nat) (v3 : S_Star) (s7 : List Int) {t w : World} {f : FM} {H : List Seg} (HS : St t w f ([(b1, .cells #[.int .i64 v3.ID, .int .i64 v3.At.X, .int .i64 v3.At.Y, .int .i64 v3.At.Z, .int .i64 v3.Rate, .slice A4 v3.Wave.length c5, .int .i64 v3.Period, .int .i64 v3.From, .int .i64 v3.To] 62 (0, 0))] :: H)) (HR6 : SlR (tInt .i64) f A4 c5 v3.Wave) (HR10 : SlR (tInt .i64) f A8 c9 s7) (r1 : Bool) (h : slices_ContainsFunc_Quanta__sky_star_1 k v3 s7 = some r1) :
    Calls Try.prog 66 #[.slice A8 s7.length c9, .func (.func 67) #[] #[.pointer (some ⟨b1, 0, none⟩)]] w (fun e w' => ∃ (g : FM), e = .returned (Value.bool r1) ∧ FM.le f g ∧ St t w' g ([(b1, .cells #[.int .i64 v3.ID, .int .i64 v3.At.X, .int .i64 v3.At.Y, .int .i64 v3.At.Z, .int .i64 v3.Rate, .slice A4 v3.Wave.length c5, .int .i64 v3.Period, .int .i64 v3.From, .int .i64 v3.To] 62 (0, 0))] :: H)) := by
  unfold slices_ContainsFunc_Quanta__sky_star_1 at h
  refine enter Try.func66 rfl (tm := #[.slice A8 s7.length c9, .func (.func 67) #[] #[.pointer (some ⟨b1, 0, none⟩)], uV, uV, uV, uV, uV, uV, uV]) (by kernel_rfl) ?_
  intro B hret hnor hnp
  refine wp_seq_k (fun K11 hK12 => ?_)
  refine wp_region_lit ?_
  refine seqS1 (a' := ⟨#[.slice A8 s7.length c9, .func (.func 67) #[] #[.pointer (some ⟨b1, 0, none⟩)], uV, uV, .bool false, uV, uV, uV, uV], []⟩) (by kernel_rfl) ?_
  refine wpList_nil ?_
  refine hK12 _ _ ?_
  refine wp_seq_k (fun K13 hK14 => ?_)
  refine wp_region_lit ?_
  have hq_ := bind_some h; clear h; obtain ⟨vt15, hc16, h⟩ := hq_
  refine seqL2 (by kernel_rfl) ?_
  refine seqK rfl (does_call (f := 69) (args := #[.slice A8 s7.length c9, .func (.func 67) #[] #[.pointer (some ⟨b1, 0, none⟩)]]) (by kernel_rfl) (slices_IndexFunc_Quanta__sky_star_1.calls k b1 A4 c5 A8 c9 v3 s7 HS HR6 HR10 vt15 hc16) ?_)
  rintro _ W19 ⟨f17, rfl, L18, HS20⟩
  refine ⟨_, rfl, ?_⟩
  refine seqS2 (a' := ⟨#[.slice A8 s7.length c9, .func (.func 67) #[] #[.pointer (some ⟨b1, 0, none⟩)], uV, uV, .bool (decide (vt15 ≥ 0)), .slice A8 s7.length c9, .func (.func 67) #[] #[.pointer (some ⟨b1, 0, none⟩)], iV vt15, .bool (decide (vt15 ≥ 0))], []⟩) (by kernel_rfl) ?_
  refine wpList_nil ?_
  refine hK14 _ _ ?_
  refine wp_ret ?_
  refine hret _ _ ?_
  refine ends_still (v := Value.bool (decide (vt15 ≥ 0))) (by kernel_rfl) (by kernel_rfl) ?_
  injection h with h
  subst h
  exact ⟨f17, rfl, L18, HS20⟩

end Go.Sp.U7
