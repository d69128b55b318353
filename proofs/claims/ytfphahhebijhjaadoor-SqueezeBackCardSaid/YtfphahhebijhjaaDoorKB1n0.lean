import Derived.Test.YtfphahhebijhjaaDoorProg
import Derived.Test.YtfphahhebijhjaaDoorSpCopy
import Derived.Test.YtfphahhebijhjaaDoorFB1
import Derived.Test.YtfphahhebijhjaaDoorSpStr
import Derived.Test.YtfphahhebijhjaaDoorConv
import Derived.Test.YtfphahhebijhjaaDoorSpRound
namespace Go.Sp.B1
open Go Go.Sp Go.Proofs
set_option linter.unusedVariables false
attribute [local irreducible] wpList AnyL Code.wp Calls Does Code.wpIn wpListIn CallsIn bodyPostM LeavesInM
def ty_Stream : Ty S_Stream where
  sz := 2
  rep := fun f cs x => ∃ (A0 : Option Addr) (c0 : Nat), cs = [.slice A0 x.L.length c0, .int .i64 x.vat] ∧ SlR (tInt .i64) f A0 c0 x.L
  pos := by decide
  len := by rintro f cs x ⟨A0, c0, rfl, h0⟩; rfl
  mono := by rintro f g cs x hl ⟨A0, c0, rfl, h0⟩; exact ⟨A0, c0, rfl, h0.mono hl⟩
  one := by
    rintro f cs x ⟨A0, c0, rfl, h0⟩ v hv
    simp only [List.mem_cons, List.not_mem_nil, or_false] at hv
    rcases hv with rfl | rfl <;> rfl
def ty_Card : Ty S_Card where
  sz := 4
  rep := fun f cs x => cs = [.string x.Key, .string x.Value, .string x.Unit, .string x.Note]
  pos := by decide
  len := by rintro f cs x rfl; rfl
  mono := by rintro f g cs x hl rfl; exact rfl
  one := by
    rintro f cs x rfl v hv
    simp only [List.mem_cons, List.not_mem_nil, or_false] at hv
    rcases hv with rfl | rfl | rfl | rfl <;> rfl
def ty_Sensor : Ty S_Sensor where
  sz := 8
  rep := fun f cs x => ∃ (A2 : Option Addr) (c2 : Nat) (A3 : Option Addr) (c3 : Nat) (A4 : Option Addr) (c4 : Nat), cs = [.int .i64 x.W, .int .i64 x.H, .slice A2 x.Bias.length c2, .slice A3 x.Dark.length c3, .slice A4 x.Flat.length c4, .int .i64 x.Full, .int .i64 x.Gain, .int .i64 x.Noise] ∧ SlR (tInt .i64) f A2 c2 x.Bias ∧ SlR (tInt .i64) f A3 c3 x.Dark ∧ SlR (tInt .i64) f A4 c4 x.Flat
  pos := by decide
  len := by rintro f cs x ⟨A2, c2, A3, c3, A4, c4, rfl, h2, h3, h4⟩; rfl
  mono := by rintro f g cs x hl ⟨A2, c2, A3, c3, A4, c4, rfl, h2, h3, h4⟩; exact ⟨A2, c2, A3, c3, A4, c4, rfl, h2.mono hl, h3.mono hl, h4.mono hl⟩
  one := by
    rintro f cs x ⟨A2, c2, A3, c3, A4, c4, rfl, h2, h3, h4⟩ v hv
    simp only [List.mem_cons, List.not_mem_nil, or_false] at hv
    rcases hv with rfl | rfl | rfl | rfl | rfl | rfl | rfl | rfl <;> rfl
def ty_Hit : Ty S_Hit where
  sz := 3
  rep := fun f cs x => cs = [.int .i64 x.X, .int .i64 x.Y, .int .i64 x.Quanta]
  pos := by decide
  len := by rintro f cs x rfl; rfl
  mono := by rintro f g cs x hl rfl; exact rfl
  one := by
    rintro f cs x rfl v hv
    simp only [List.mem_cons, List.not_mem_nil, or_false] at hv
    rcases hv with rfl | rfl | rfl <;> rfl
def ty_Plate : Ty S_Plate where
  sz := 4
  rep := fun f cs x => cs = [.int .i64 x.A, .int .i64 x.B, .int .i64 x.C, .int .i64 x.D]
  pos := by decide
  len := by rintro f cs x rfl; rfl
  mono := by rintro f g cs x hl rfl; exact rfl
  one := by
    rintro f cs x rfl v hv
    simp only [List.mem_cons, List.not_mem_nil, or_false] at hv
    rcases hv with rfl | rfl | rfl | rfl <;> rfl
def ty_Shot : Ty S_Shot where
  sz := 14
  rep := fun f cs x => ∃ (A13 : Option Addr) (c13 : Nat), cs = [.int .i64 x.Kind, .int .u64 x.Seed, .int .i64 x.Number, .int .i64 x.Begin, .int .i64 x.Beats, .int .i64 x.Plate.A, .int .i64 x.Plate.B, .int .i64 x.Plate.C, .int .i64 x.Plate.D, .int .i64 x.Seeing, .int .i64 x.DriftX, .int .i64 x.DriftY, .int .i64 x.Lamp, .slice A13 x.Hits.length c13] ∧ SlR ty_Hit f A13 c13 x.Hits
  pos := by decide
  len := by rintro f cs x ⟨A13, c13, rfl, h13⟩; rfl
  mono := by rintro f g cs x hl ⟨A13, c13, rfl, h13⟩; exact ⟨A13, c13, rfl, h13.mono hl⟩
  one := by
    rintro f cs x ⟨A13, c13, rfl, h13⟩ v hv
    simp only [List.mem_cons, List.not_mem_nil, or_false] at hv
    rcases hv with rfl | rfl | rfl | rfl | rfl | rfl | rfl | rfl | rfl | rfl | rfl | rfl | rfl | rfl <;> rfl
def ty_Frame : Ty S_Frame where
  sz := 4
  rep := fun f cs x => ∃ (A2 : Option Addr) (c2 : Nat) (A3 : Option Addr) (c3 : Nat), cs = [.int .i64 x.W, .int .i64 x.H, .slice A2 x.Cards.length c2, .slice A3 x.Counts.length c3] ∧ SlR ty_Card f A2 c2 x.Cards ∧ SlR (tInt .i64) f A3 c3 x.Counts
  pos := by decide
  len := by rintro f cs x ⟨A2, c2, A3, c3, rfl, h2, h3⟩; rfl
  mono := by rintro f g cs x hl ⟨A2, c2, A3, c3, rfl, h2, h3⟩; exact ⟨A2, c2, A3, c3, rfl, h2.mono hl, h3.mono hl⟩
  one := by
    rintro f cs x ⟨A2, c2, A3, c3, rfl, h2, h3⟩ v hv
    simp only [List.mem_cons, List.not_mem_nil, or_false] at hv
    rcases hv with rfl | rfl | rfl | rfl <;> rfl
def ty_writer : Ty S_writer where
  sz := 2
  rep := fun f cs x => ∃ (A0 : Option Addr) (c0 : Nat), cs = [.slice A0 x.out.length c0, .int .i64 x.used] ∧ SlR (tInt .u8) f A0 c0 x.out
  pos := by decide
  len := by rintro f cs x ⟨A0, c0, rfl, h0⟩; rfl
  mono := by rintro f g cs x hl ⟨A0, c0, rfl, h0⟩; exact ⟨A0, c0, rfl, h0.mono hl⟩
  one := by
    rintro f cs x ⟨A0, c0, rfl, h0⟩ v hv
    simp only [List.mem_cons, List.not_mem_nil, or_false] at hv
    rcases hv with rfl | rfl <;> rfl
def ty_reader : Ty S_reader where
  sz := 3
  rep := fun f cs x => ∃ (A0 : Option Addr) (c0 : Nat), cs = [.slice A0 x.b.length c0, .int .i64 x.used, .bool x.over] ∧ SlR (tInt .u8) f A0 c0 x.b
  pos := by decide
  len := by rintro f cs x ⟨A0, c0, rfl, h0⟩; rfl
  mono := by rintro f g cs x hl ⟨A0, c0, rfl, h0⟩; exact ⟨A0, c0, rfl, h0.mono hl⟩
  one := by
    rintro f cs x ⟨A0, c0, rfl, h0⟩ v hv
    simp only [List.mem_cons, List.not_mem_nil, or_false] at hv
    rcases hv with rfl | rfl | rfl <;> rfl
abbrev ag_Sensor (x : S_Sensor) (A2 : Option Addr) (c2 : Nat) (A3 : Option Addr) (c3 : Nat) (A4 : Option Addr) (c4 : Nat) : Value := .agg #[.int .i64 x.W, .int .i64 x.H, .slice A2 x.Bias.length c2, .slice A3 x.Dark.length c3, .slice A4 x.Flat.length c4, .int .i64 x.Full, .int .i64 x.Gain, .int .i64 x.Noise]
abbrev ag_Shot (x : S_Shot) (A13 : Option Addr) (c13 : Nat) : Value := .agg #[.int .i64 x.Kind, .int .u64 x.Seed, .int .i64 x.Number, .int .i64 x.Begin, .int .i64 x.Beats, .int .i64 x.Plate.A, .int .i64 x.Plate.B, .int .i64 x.Plate.C, .int .i64 x.Plate.D, .int .i64 x.Seeing, .int .i64 x.DriftX, .int .i64 x.DriftY, .int .i64 x.Lamp, .slice A13 x.Hits.length c13]
abbrev ag_Plate (x : S_Plate) : Value := .agg #[.int .i64 x.A, .int .i64 x.B, .int .i64 x.C, .int .i64 x.D]
abbrev ag_Card (x : S_Card) : Value := .agg #[.string x.Key, .string x.Value, .string x.Unit, .string x.Note]
abbrev ag_Frame (x : S_Frame) (A2 : Option Addr) (c2 : Nat) (A3 : Option Addr) (c3 : Nat) : Value := .agg #[.int .i64 x.W, .int .i64 x.H, .slice A2 x.Cards.length c2, .slice A3 x.Counts.length c3]
abbrev ag_reader (x : S_reader) (A0 : Option Addr) (c0 : Nat) : Value := .agg #[.slice A0 x.b.length c0, .int .i64 x.used, .bool x.over]
theorem inf3 : Inf Tryd.prog 3 1 8 (.int .i64 0) := .mk' (by kernel_rfl) rfl
theorem inf88 : Inf Tryd.prog 88 1 8 (.int .i64 0) := .mk' (by kernel_rfl) rfl
theorem inf75 : Inf Tryd.prog 75 4 64 (.agg #[.string ⟨#[]⟩, .string ⟨#[]⟩, .string ⟨#[]⟩, .string ⟨#[]⟩]) := .mk' (by kernel_rfl) rfl
theorem inf5 : Inf Tryd.prog 5 1 1 (.int .u8 0) := .mk' (by kernel_rfl) rfl

set_option maxRecDepth 100000 in
set_option maxHeartbeats 4000000 in
theorem spymake_Below.calls (k : Nat)  (x1 : Int) (n2 : Int) {t w : World} {f : FM} {H : List Seg} (HS : St t w f (H)) (rr1 : Int) (h : spymake_Below k x1 n2 = some rr1) :
    Calls Tryd.prog 6 #[.int .i64 x1, .int .i64 n2] w (fun e w' => ∃ (g : FM), e = .returned (Value.int .i64 rr1) ∧ FM.le f g ∧ St t w' g (H)) := by
 unfold spymake_Below at h
 refine enter Tryd.func6 rfl (tm := #[iV x1, iV n2, uV, uV, uV, uV, uV, uV, uV, uV, uV, uV, uV, uV, uV, uV]) (by kernel_rfl) ?_
 intro B hret hnor hnp
 refine wp_seq_k (fun K3 hK4 => ?_)
 refine wp_region_lit ?_
 refine seqS1 (a' := ⟨#[iV x1, iV n2, uV, uV, iV 0, uV, uV, uV, uV, uV, uV, uV, uV, uV, uV, uV], []⟩) (by kernel_rfl) ?_
 refine wpList_nil ?_
 refine hK4 _ _ ?_
 refine wp_seq_k (fun K5 hK6 => ?_)
 refine wp_seq_k (fun K7 hK8 => ?_)
 refine wp_region_lit ?_
 refine seqS2 (a' := ⟨#[iV x1, iV n2, uV, uV, iV 0, iV n2, .bool (decide (n2 < 1)), uV, uV, uV, uV, uV, uV, uV, uV, uV], []⟩) (by kernel_rfl) ?_
 refine wpList_nil ?_
 refine hK8 _ _ ?_
 have hq_ := ite_some h; clear h; rcases hq_ with ⟨c10, h⟩ | ⟨c10, h⟩
 · have c10 : n2 < 1 := c10
   refine wpRwI 6 (x := (decide (n2 < 1))) (v := true) (by kernel_rfl) (decide_eq_true c10) ?_
   refine condT (by kernel_rfl) ?_
   refine wp_seq_k (fun K11 hK12 => ?_)
   refine wp_region_lit ?_
   refine seqS1 (a' := ⟨#[iV x1, iV n2, uV, uV, iV 0, iV n2, tV, uV, uV, uV, uV, uV, uV, uV, uV, uV], []⟩) (by kernel_rfl) ?_
   refine wpList_nil ?_
   refine hK12 _ _ ?_
   refine wp_ret ?_
   refine hret _ _ ?_
   refine ends_still (v := Value.int .i64 0) (by kernel_rfl) (by kernel_rfl) ?_
   injection h with h
   subst h
   exact ⟨f, rfl, FM.le.refl _, HS⟩
 · have c10 : ¬ (n2 < 1) := c10
   refine wpRwI 6 (x := (decide (n2 < 1))) (v := false) (by kernel_rfl) (decide_eq_false c10) ?_
   refine condF (by kernel_rfl) ?_
   refine wp_skip ?_
   refine hK6 _ _ ?_
   refine wp_seq_k (fun K13 hK14 => ?_)
   refine wp_region_lit ?_
   have hq_ := guard_some h; clear h; obtain ⟨c15, h⟩ := hq_
   have c15 : ¬ (n2 = 0) := c15
   refine seqL2 (by kernel_rfl) ?_
   refine seqK rfl (does_run (run_rem rfl (by kernel_rfl : _ = Value.int .i64 x1) (by kernel_rfl : _ = Value.int .i64 n2) c15 w) ?_)
   refine seqS1 (a' := ⟨#[iV (Int.tmod x1 n2), iV n2, uV, uV, iV 0, iV n2, fV, iV x1, iV n2, iV (Int.tmod x1 n2), uV, uV, uV, uV, uV, uV], []⟩) (by kernel_rfl) ?_
   refine wpList_nil ?_
   refine hK14 _ _ ?_
   refine wp_seq_k (fun K16 hK17 => ?_)
   refine wp_seq_k (fun K18 hK19 => ?_)
   refine wp_region_lit ?_
   refine seqS2 (a' := ⟨#[iV (Int.tmod x1 n2), iV n2, uV, uV, iV 0, iV n2, fV, iV x1, iV n2, iV (Int.tmod x1 n2), iV (Int.tmod x1 n2), .bool (decide ((Int.tmod x1 n2) < 0)), uV, uV, uV, uV], []⟩) (by kernel_rfl) ?_
   refine wpList_nil ?_
   refine hK19 _ _ ?_
   have hq_ := ite_some h; clear h; rcases hq_ with ⟨c21, h⟩ | ⟨c21, h⟩
   · have c21 : (Int.tmod x1 n2) < 0 := c21
     refine wpRwI 11 (x := (decide ((Int.tmod x1 n2) < 0))) (v := true) (by kernel_rfl) (decide_eq_true c21) ?_
     refine condT (by kernel_rfl) ?_
     refine wp_region_lit ?_
     refine seqS4 (a' := ⟨#[iV (w64 ((Int.tmod x1 n2) + n2)), iV n2, uV, uV, iV 0, iV n2, fV, iV x1, iV n2, iV (Int.tmod x1 n2), iV (Int.tmod x1 n2), tV, iV (Int.tmod x1 n2), iV n2, iV (w64 ((Int.tmod x1 n2) + n2)), uV], []⟩) (by kernel_rfl) ?_
     refine wpList_nil ?_
     refine hK17 _ _ ?_
     refine wp_seq_k (fun K22 hK23 => ?_)
     refine wp_region_lit ?_
     refine seqS2 (a' := ⟨#[iV (w64 ((Int.tmod x1 n2) + n2)), iV n2, uV, uV, iV (w64 ((Int.tmod x1 n2) + n2)), iV n2, fV, iV x1, iV n2, iV (Int.tmod x1 n2), iV (Int.tmod x1 n2), tV, iV (Int.tmod x1 n2), iV n2, iV (w64 ((Int.tmod x1 n2) + n2)), iV (w64 ((Int.tmod x1 n2) + n2))], []⟩) (by kernel_rfl) ?_
     refine wpList_nil ?_
     refine hK23 _ _ ?_
     refine wp_ret ?_
     refine hret _ _ ?_
     refine ends_still (v := Value.int .i64 (w64 ((Int.tmod x1 n2) + n2))) (by kernel_rfl) (by kernel_rfl) ?_
     injection h with h
     subst h
     exact ⟨f, rfl, FM.le.refl _, HS⟩
   · have c21 : ¬ ((Int.tmod x1 n2) < 0) := c21
     refine wpRwI 11 (x := (decide ((Int.tmod x1 n2) < 0))) (v := false) (by kernel_rfl) (decide_eq_false c21) ?_
     refine condF (by kernel_rfl) ?_
     refine wp_skip ?_
     refine hK17 _ _ ?_
     refine wp_seq_k (fun K24 hK25 => ?_)
     refine wp_region_lit ?_
     refine seqS2 (a' := ⟨#[iV (Int.tmod x1 n2), iV n2, uV, uV, iV (Int.tmod x1 n2), iV n2, fV, iV x1, iV n2, iV (Int.tmod x1 n2), iV (Int.tmod x1 n2), fV, uV, uV, uV, iV (Int.tmod x1 n2)], []⟩) (by kernel_rfl) ?_
     refine wpList_nil ?_
     refine hK25 _ _ ?_
     refine wp_ret ?_
     refine hret _ _ ?_
     refine ends_still (v := Value.int .i64 (Int.tmod x1 n2)) (by kernel_rfl) (by kernel_rfl) ?_
     injection h with h
     subst h
     exact ⟨f, rfl, FM.le.refl _, HS⟩

set_option maxRecDepth 100000 in
set_option maxHeartbeats 4000000 in
theorem spymake_Stream_Next.calls (k : Nat) (b1 : Nat) (A4 : Option Addr) (c5 : Nat) (s3 : S_Stream) (n7 : Int) {t w : World} {f : FM} {H : List Seg} (HS : St t w f ([(b1, .cells #[.slice A4 s3.L.length c5, .int .i64 s3.vat] 37 (0, 0))] :: H)) (HR6 : SlR (tInt .i64) f A4 c5 s3.L) (rr1 : Int) (rr2 : Int) (h : spymake_Stream_Next k s3 n7 = some (rr1, rr2)) :
    Calls Tryd.prog 23 #[.pointer (some ⟨b1, 0, none⟩), .int .i64 n7] w (fun e w' => ∃ (g : FM), e = .returned (Value.int .i64 rr1) ∧ FM.le f g ∧ St t w' g ([(b1, .cells #[.slice A4 s3.L.length c5, .int .i64 rr2] 37 (0, 0))] :: H)) := by
 unfold spymake_Stream_Next at h
 refine enter Tryd.func23 rfl (tm := #[pV b1 0, iV n7, uV, uV, uV, uV, uV, uV, uV, uV, uV, uV, uV, uV, uV, uV, uV, uV, uV, uV, uV, uV, uV, uV, uV, uV, uV, uV, uV, uV, uV, uV, uV, uV, uV, uV, uV, uV, uV, uV, uV, uV, uV, uV, uV, uV, uV, uV, uV, uV, uV, uV, uV, uV, uV, uV, uV, uV, uV, uV, uV, uV, uV, uV]) (by kernel_rfl) ?_
 intro B hret hnor hnp
 refine wp_seq_k (fun K8 hK9 => ?_)
 refine wp_region_lit ?_
 refine seqS1 (a' := ⟨#[pV b1 0, iV n7, uV, uV, iV 0, uV, uV, uV, uV, uV, uV, uV, uV, uV, uV, uV, uV, uV, uV, uV, uV, uV, uV, uV, uV, uV, uV, uV, uV, uV, uV, uV, uV, uV, uV, uV, uV, uV, uV, uV, uV, uV, uV, uV, uV, uV, uV, uV, uV, uV, uV, uV, uV, uV, uV, uV, uV, uV, uV, uV, uV, uV, uV, uV], []⟩) (by kernel_rfl) ?_
 refine wpList_nil ?_
 refine hK9 _ _ ?_
 refine wp_seq_k (fun K10 hK11 => ?_)
 refine wp_region_lit ?_
 refine seqL3 (by kernel_rfl) ?_
 refine seqK rfl (does_run (run_load rfl Tryd.underlying3 rfl (by kernel_rfl : _ = Value.pointer (some ⟨b1, 1, none⟩)) (HS.cell 1)) ?_)
 refine seqL3 (by kernel_rfl) ?_
 refine seqK rfl (does_store (n := 1) (vs := [.int .i64 (w64 (s3.vat + 1))]) (cs' := #[.slice A4 s3.L.length c5, .int .i64 (w64 (s3.vat + 1))]) rfl (by kernel_rfl) (by kernel_rfl : _ = Value.pointer (some ⟨b1, 1, none⟩)) (by kernel_rfl : _ = Value.int .i64 (w64 (s3.vat + 1))) rfl rfl (by intro u_ hu_; simp only [List.mem_cons, List.not_mem_nil, or_false] at hu_; subst hu_; rfl) HS (Nat.le_of_ble_eq_true rfl) (by kernel_rfl) ?_)
 intro W12 HS13
 refine wpList_nil ?_
 refine hK11 _ _ ?_
 refine wp_seq_k (fun K14 hK15 => ?_)
 refine wp_seq_k (fun K16 hK17 => ?_)
 refine wp_region_lit ?_
 refine seqL3 (by kernel_rfl) ?_
 refine seqK rfl (does_run (run_load rfl Tryd.underlying27 rfl (by kernel_rfl : _ = Value.pointer (some ⟨b1, 0, none⟩)) (HS13.cell 0)) ?_)
 refine seqS2 (a' := ⟨#[pV b1 0, iV n7, uV, uV, iV 0, uV, uV, pV b1 0, pV b1 0, pV b1 1, iV s3.vat, iV (w64 (s3.vat + 1)), pV b1 0, pV b1 1, pV b1 0, pV b1 0, pV b1 0, .slice A4 s3.L.length c5, iV (s3.L.length : Int), .bool ((s3.L.length : Int) == 0), uV, uV, uV, uV, uV, uV, uV, uV, uV, uV, uV, uV, uV, uV, uV, uV, uV, uV, uV, uV, uV, uV, uV, uV, uV, uV, uV, uV, uV, uV, uV, uV, uV, uV, uV, uV, uV, uV, uV, uV, uV, uV, uV, uV], []⟩) (by kernel_rfl) ?_
 refine wpList_nil ?_
 refine hK17 _ _ ?_
 have hq_ := ite_some h; clear h; rcases hq_ with ⟨c19, h⟩ | ⟨c19, h⟩
 · have c19 : (s3.L.length : Int) = 0 := c19
   refine wpRwI 19 (x := ((s3.L.length : Int) == 0)) (v := true) (by kernel_rfl) (beq_iff_eq.mpr c19) ?_
   refine condT (by kernel_rfl) ?_
   refine wp_seq_k (fun K20 hK21 => ?_)
   refine wp_region_lit ?_
   refine seqL3 (by kernel_rfl) ?_
   refine seqK rfl (does_run (run_load rfl Tryd.underlying3 rfl (by kernel_rfl : _ = Value.pointer (some ⟨b1, 1, none⟩)) (HS13.cell 1)) ?_)
   have hq_ := bind_some h; clear h; obtain ⟨vt22, hc23, h⟩ := hq_
   refine seqL2 (by kernel_rfl) ?_
   refine seqK rfl (does_call (f := 6) (args := #[.int .i64 (w64 ((w64 (s3.vat + 1)) * 7919)), .int .i64 n7]) (by kernel_rfl) (spymake_Below.calls k (w64 ((w64 (s3.vat + 1)) * 7919)) n7 HS13 vt22 hc23) ?_)
   rintro _ W26 ⟨f24, rfl, L25, HS27⟩
   refine ⟨_, rfl, ?_⟩
   refine seqS1 (a' := ⟨#[pV b1 0, iV n7, uV, uV, iV vt22, uV, uV, pV b1 0, pV b1 0, pV b1 1, iV s3.vat, iV (w64 (s3.vat + 1)), pV b1 0, pV b1 1, pV b1 0, pV b1 0, pV b1 0, .slice A4 s3.L.length c5, iV (s3.L.length : Int), tV, pV b1 0, pV b1 0, pV b1 1, iV (w64 (s3.vat + 1)), iV (w64 ((w64 (s3.vat + 1)) * 7919)), iV n7, iV vt22, uV, uV, uV, uV, uV, uV, uV, uV, uV, uV, uV, uV, uV, uV, uV, uV, uV, uV, uV, uV, uV, uV, uV, uV, uV, uV, uV, uV, uV, uV, uV, uV, uV, uV, uV, uV, uV], []⟩) (by kernel_rfl) ?_
   refine wpList_nil ?_
   refine hK21 _ _ ?_
   refine wp_ret ?_
   refine hret _ _ ?_
   refine ends_still (v := Value.int .i64 vt22) (by kernel_rfl) (by kernel_rfl) ?_
   injection h with h
   injection h with h0_ h
   subst h0_ h
   exact ⟨f24, rfl, L25, HS27⟩
 · have c19 : ¬ ((s3.L.length : Int) = 0) := c19
   refine wpRwI 19 (x := ((s3.L.length : Int) == 0)) (v := false) (by kernel_rfl) (beq_eq_false_iff_ne.mpr c19) ?_
   refine condF (by kernel_rfl) ?_
   refine wp_skip ?_
   refine hK15 _ _ ?_
   refine wp_seq_k (fun K28 hK29 => ?_)
   refine heldG (S := Sg t f ([(b1, .cells #[.slice A4 s3.L.length c5, .int .i64 (w64 (s3.vat + 1))] 37 (0, 0))] :: H) []) (n := 12) (by kernel_rfl) rfl HS13 ?_
   intro W30 HS31
   refine takeG [0, 1, 2] (n := 12) (fuel := 9) (l' := #[true, true, true, false, false, false, false, false, false, false, false, false]) (a' := ⟨#[pV b1 0, iV n7, uV, uV, iV 0, uV, uV, pV b1 0, pV b1 0, pV b1 1, iV s3.vat, iV (w64 (s3.vat + 1)), pV b1 0, pV b1 1, pV b1 0, pV b1 0, pV b1 0, .slice A4 s3.L.length c5, iV (s3.L.length : Int), fV, uV, uV, uV, uV, uV, uV, uV, pV b1 0, pV b1 0, pV b1 1, uV, uV, uV, uV, uV, uV, uV, uV, uV, uV, uV, uV, uV, uV, uV, uV, uV, uV, uV, uV, uV, uV, uV, uV, uV, uV, uV, uV, uV, uV, uV, uV, uV, uV], []⟩) rfl (by kernel_rfl) (by kernel_rfl) (by kernel_rfl) hnp (Sg.g0 (Sx.of [] (FM.le.refl _) HS31)) ?_
   refine takeGQ 3 [] rfl (by kernel_rfl) (by kernel_rfl) (by kernel_rfl) (by kernel_rfl) (by kernel_rfl) (by kernel_rfl) hnp (Sg.g0 (Sx.of [] (FM.le.refl _) HS31)) (fun w_ hw_ => by obtain ⟨g_, hl_, hS_⟩ := hw_.st; exact run_load rfl Tryd.underlying3 rfl (by kernel_rfl : _ = Value.pointer (some ⟨b1, 1, none⟩)) (hS_.cell 1)) ?_
   refine takeG [4, 5, 6, 7] (n := 8) (fuel := 4) (l' := #[true, true, true, true, true, true, true, true, false, false, false, false]) (a' := ⟨#[pV b1 0, iV n7, uV, uV, iV 0, uV, uV, pV b1 0, pV b1 0, pV b1 1, iV s3.vat, iV (w64 (s3.vat + 1)), pV b1 0, pV b1 1, pV b1 0, pV b1 0, pV b1 0, .slice A4 s3.L.length c5, iV (s3.L.length : Int), fV, uV, uV, uV, uV, uV, uV, uV, pV b1 0, pV b1 0, pV b1 1, iV (w64 (s3.vat + 1)), iV (w64 ((w64 (s3.vat + 1)) - 1)), pV b1 0, pV b1 0, pV b1 0, uV, uV, uV, uV, uV, uV, uV, uV, uV, uV, uV, uV, uV, uV, uV, uV, uV, uV, uV, uV, uV, uV, uV, uV, uV, uV, uV, uV, uV], []⟩) rfl (by kernel_rfl) (by kernel_rfl) (by kernel_rfl) hnp (Sg.g0 (Sx.of [] (FM.le.refl _) HS31)) ?_
   refine takeGQ 8 [] rfl (by kernel_rfl) (by kernel_rfl) (by kernel_rfl) (by kernel_rfl) (by kernel_rfl) (by kernel_rfl) hnp (Sg.g0 (Sx.of [] (FM.le.refl _) HS31)) (fun w_ hw_ => by obtain ⟨g_, hl_, hS_⟩ := hw_.st; exact run_load rfl Tryd.underlying27 rfl (by kernel_rfl : _ = Value.pointer (some ⟨b1, 0, none⟩)) (hS_.cell 0)) ?_
   have hq_ := guard_some h; clear h; obtain ⟨c32, h⟩ := hq_
   have c32 : ¬ ((s3.L.length : Int) = 0) := c32
   refine takeG [9] (n := 3) (fuel := 2) (l' := #[true, true, true, true, true, true, true, true, true, true, false, false]) (a' := ⟨#[pV b1 0, iV n7, uV, uV, iV 0, uV, uV, pV b1 0, pV b1 0, pV b1 1, iV s3.vat, iV (w64 (s3.vat + 1)), pV b1 0, pV b1 1, pV b1 0, pV b1 0, pV b1 0, .slice A4 s3.L.length c5, iV (s3.L.length : Int), fV, uV, uV, uV, uV, uV, uV, uV, pV b1 0, pV b1 0, pV b1 1, iV (w64 (s3.vat + 1)), iV (w64 ((w64 (s3.vat + 1)) - 1)), pV b1 0, pV b1 0, pV b1 0, .slice A4 s3.L.length c5, iV (s3.L.length : Int), uV, uV, uV, uV, uV, uV, uV, uV, uV, uV, uV, uV, uV, uV, uV, uV, uV, uV, uV, uV, uV, uV, uV, uV, uV, uV, uV], []⟩) rfl (by kernel_rfl) (by kernel_rfl) (by kernel_rfl) hnp (Sg.g0 (Sx.of [] (FM.le.refl _) HS31)) ?_
   refine takeGQ 10 [] rfl (by kernel_rfl) (by kernel_rfl) (by kernel_rfl) (by kernel_rfl) (by kernel_rfl) (by kernel_rfl) hnp (Sg.g0 (Sx.of [] (FM.le.refl _) HS31)) (fun w_ hw_ => by obtain ⟨g_, hl_, hS_⟩ := hw_.st; exact run_rem rfl (by kernel_rfl : _ = Value.int .i64 (w64 ((w64 (s3.vat + 1)) - 1))) (by kernel_rfl : _ = Value.int .i64 (s3.L.length : Int)) c32 w_) ?_
   refine takeG [11] (n := 1) (fuel := 0) (l' := #[true, true, true, true, true, true, true, true, true, true, true, true]) (a' := ⟨#[pV b1 0, iV n7, uV, uV, iV 0, iV (Int.tmod (w64 ((w64 (s3.vat + 1)) - 1)) (s3.L.length : Int)), uV, pV b1 0, pV b1 0, pV b1 1, iV s3.vat, iV (w64 (s3.vat + 1)), pV b1 0, pV b1 1, pV b1 0, pV b1 0, pV b1 0, .slice A4 s3.L.length c5, iV (s3.L.length : Int), fV, uV, uV, uV, uV, uV, uV, uV, pV b1 0, pV b1 0, pV b1 1, iV (w64 (s3.vat + 1)), iV (w64 ((w64 (s3.vat + 1)) - 1)), pV b1 0, pV b1 0, pV b1 0, .slice A4 s3.L.length c5, iV (s3.L.length : Int), iV (Int.tmod (w64 ((w64 (s3.vat + 1)) - 1)) (s3.L.length : Int)), uV, uV, uV, uV, uV, uV, uV, uV, uV, uV, uV, uV, uV, uV, uV, uV, uV, uV, uV, uV, uV, uV, uV, uV, uV, uV], []⟩) rfl (by kernel_rfl) (by kernel_rfl) (by kernel_rfl) hnp (Sg.g0 (Sx.of [] (FM.le.refl _) HS31)) ?_
   refine doneG (by kernel_rfl) ?_ _
   refine hK29 _ _ ?_
   refine wp_seq_k (fun K33 hK34 => ?_)
   refine heldG (S := Sg t f ([(b1, .cells #[.slice A4 s3.L.length c5, .int .i64 (w64 (s3.vat + 1))] 37 (0, 0))] :: H) []) (n := 12) (by kernel_rfl) rfl HS31 ?_
   intro W35 HS36
   refine takeG [0, 1, 2] (n := 12) (fuel := 9) (l' := #[true, true, true, false, false, false, false, false, false, false, false, false]) (a' := ⟨#[pV b1 0, iV n7, uV, uV, iV 0, iV (Int.tmod (w64 ((w64 (s3.vat + 1)) - 1)) (s3.L.length : Int)), uV, pV b1 0, pV b1 0, pV b1 1, iV s3.vat, iV (w64 (s3.vat + 1)), pV b1 0, pV b1 1, pV b1 0, pV b1 0, pV b1 0, .slice A4 s3.L.length c5, iV (s3.L.length : Int), fV, uV, uV, uV, uV, uV, uV, uV, pV b1 0, pV b1 0, pV b1 1, iV (w64 (s3.vat + 1)), iV (w64 ((w64 (s3.vat + 1)) - 1)), pV b1 0, pV b1 0, pV b1 0, .slice A4 s3.L.length c5, iV (s3.L.length : Int), iV (Int.tmod (w64 ((w64 (s3.vat + 1)) - 1)) (s3.L.length : Int)), pV b1 0, pV b1 0, pV b1 1, uV, uV, uV, uV, uV, uV, uV, uV, uV, uV, uV, uV, uV, uV, uV, uV, uV, uV, uV, uV, uV, uV, uV], []⟩) rfl (by kernel_rfl) (by kernel_rfl) (by kernel_rfl) hnp (Sg.g0 (Sx.of [] (FM.le.refl _) HS36)) ?_
   refine takeGQ 3 [] rfl (by kernel_rfl) (by kernel_rfl) (by kernel_rfl) (by kernel_rfl) (by kernel_rfl) (by kernel_rfl) hnp (Sg.g0 (Sx.of [] (FM.le.refl _) HS36)) (fun w_ hw_ => by obtain ⟨g_, hl_, hS_⟩ := hw_.st; exact run_load rfl Tryd.underlying3 rfl (by kernel_rfl : _ = Value.pointer (some ⟨b1, 1, none⟩)) (hS_.cell 1)) ?_
   refine takeG [4, 5, 6, 7] (n := 8) (fuel := 4) (l' := #[true, true, true, true, true, true, true, true, false, false, false, false]) (a' := ⟨#[pV b1 0, iV n7, uV, uV, iV 0, iV (Int.tmod (w64 ((w64 (s3.vat + 1)) - 1)) (s3.L.length : Int)), uV, pV b1 0, pV b1 0, pV b1 1, iV s3.vat, iV (w64 (s3.vat + 1)), pV b1 0, pV b1 1, pV b1 0, pV b1 0, pV b1 0, .slice A4 s3.L.length c5, iV (s3.L.length : Int), fV, uV, uV, uV, uV, uV, uV, uV, pV b1 0, pV b1 0, pV b1 1, iV (w64 (s3.vat + 1)), iV (w64 ((w64 (s3.vat + 1)) - 1)), pV b1 0, pV b1 0, pV b1 0, .slice A4 s3.L.length c5, iV (s3.L.length : Int), iV (Int.tmod (w64 ((w64 (s3.vat + 1)) - 1)) (s3.L.length : Int)), pV b1 0, pV b1 0, pV b1 1, iV (w64 (s3.vat + 1)), iV (w64 ((w64 (s3.vat + 1)) - 1)), pV b1 0, pV b1 0, pV b1 0, uV, uV, uV, uV, uV, uV, uV, uV, uV, uV, uV, uV, uV, uV, uV, uV, uV, uV], []⟩) rfl (by kernel_rfl) (by kernel_rfl) (by kernel_rfl) hnp (Sg.g0 (Sx.of [] (FM.le.refl _) HS36)) ?_
   refine takeGQ 8 [] rfl (by kernel_rfl) (by kernel_rfl) (by kernel_rfl) (by kernel_rfl) (by kernel_rfl) (by kernel_rfl) hnp (Sg.g0 (Sx.of [] (FM.le.refl _) HS36)) (fun w_ hw_ => by obtain ⟨g_, hl_, hS_⟩ := hw_.st; exact run_load rfl Tryd.underlying27 rfl (by kernel_rfl : _ = Value.pointer (some ⟨b1, 0, none⟩)) (hS_.cell 0)) ?_
   refine takeG [9] (n := 3) (fuel := 2) (l' := #[true, true, true, true, true, true, true, true, true, true, false, false]) (a' := ⟨#[pV b1 0, iV n7, uV, uV, iV 0, iV (Int.tmod (w64 ((w64 (s3.vat + 1)) - 1)) (s3.L.length : Int)), uV, pV b1 0, pV b1 0, pV b1 1, iV s3.vat, iV (w64 (s3.vat + 1)), pV b1 0, pV b1 1, pV b1 0, pV b1 0, pV b1 0, .slice A4 s3.L.length c5, iV (s3.L.length : Int), fV, uV, uV, uV, uV, uV, uV, uV, pV b1 0, pV b1 0, pV b1 1, iV (w64 (s3.vat + 1)), iV (w64 ((w64 (s3.vat + 1)) - 1)), pV b1 0, pV b1 0, pV b1 0, .slice A4 s3.L.length c5, iV (s3.L.length : Int), iV (Int.tmod (w64 ((w64 (s3.vat + 1)) - 1)) (s3.L.length : Int)), pV b1 0, pV b1 0, pV b1 1, iV (w64 (s3.vat + 1)), iV (w64 ((w64 (s3.vat + 1)) - 1)), pV b1 0, pV b1 0, pV b1 0, .slice A4 s3.L.length c5, iV (s3.L.length : Int), uV, uV, uV, uV, uV, uV, uV, uV, uV, uV, uV, uV, uV, uV, uV, uV], []⟩) rfl (by kernel_rfl) (by kernel_rfl) (by kernel_rfl) hnp (Sg.g0 (Sx.of [] (FM.le.refl _) HS36)) ?_
   refine takeGQ 10 [] rfl (by kernel_rfl) (by kernel_rfl) (by kernel_rfl) (by kernel_rfl) (by kernel_rfl) (by kernel_rfl) hnp (Sg.g0 (Sx.of [] (FM.le.refl _) HS36)) (fun w_ hw_ => by obtain ⟨g_, hl_, hS_⟩ := hw_.st; exact run_div rfl (by kernel_rfl : _ = Value.int .i64 (w64 ((w64 (s3.vat + 1)) - 1))) (by kernel_rfl : _ = Value.int .i64 (s3.L.length : Int)) c32 w_) ?_
   refine takeG [11] (n := 1) (fuel := 0) (l' := #[true, true, true, true, true, true, true, true, true, true, true, true]) (a' := ⟨#[pV b1 0, iV n7, uV, uV, iV 0, iV (Int.tmod (w64 ((w64 (s3.vat + 1)) - 1)) (s3.L.length : Int)), iV (w64 (Int.tdiv (w64 ((w64 (s3.vat + 1)) - 1)) (s3.L.length : Int))), pV b1 0, pV b1 0, pV b1 1, iV s3.vat, iV (w64 (s3.vat + 1)), pV b1 0, pV b1 1, pV b1 0, pV b1 0, pV b1 0, .slice A4 s3.L.length c5, iV (s3.L.length : Int), fV, uV, uV, uV, uV, uV, uV, uV, pV b1 0, pV b1 0, pV b1 1, iV (w64 (s3.vat + 1)), iV (w64 ((w64 (s3.vat + 1)) - 1)), pV b1 0, pV b1 0, pV b1 0, .slice A4 s3.L.length c5, iV (s3.L.length : Int), iV (Int.tmod (w64 ((w64 (s3.vat + 1)) - 1)) (s3.L.length : Int)), pV b1 0, pV b1 0, pV b1 1, iV (w64 (s3.vat + 1)), iV (w64 ((w64 (s3.vat + 1)) - 1)), pV b1 0, pV b1 0, pV b1 0, .slice A4 s3.L.length c5, iV (s3.L.length : Int), iV (w64 (Int.tdiv (w64 ((w64 (s3.vat + 1)) - 1)) (s3.L.length : Int))), uV, uV, uV, uV, uV, uV, uV, uV, uV, uV, uV, uV, uV, uV, uV], []⟩) rfl (by kernel_rfl) (by kernel_rfl) (by kernel_rfl) hnp (Sg.g0 (Sx.of [] (FM.le.refl _) HS36)) ?_
   refine doneG (by kernel_rfl) ?_ _
   refine hK34 _ _ ?_
   refine wp_seq_k (fun K37 hK38 => ?_)
   refine wp_region_lit ?_
   refine seqL3 (by kernel_rfl) ?_
   refine seqK rfl (does_run (run_load rfl Tryd.underlying27 rfl (by kernel_rfl : _ = Value.pointer (some ⟨b1, 0, none⟩)) (HS36.cell 0)) ?_)
   have hq_ := guard_some h; clear h; obtain ⟨c39, h⟩ := hq_
   have c39 : 0 ≤ (Int.tmod (w64 ((w64 (s3.vat + 1)) - 1)) (s3.L.length : Int)) := c39
   have hq_ := guard_some h; clear h; obtain ⟨c40, h⟩ := hq_
   have c40 : (Int.tmod (w64 ((w64 (s3.vat + 1)) - 1)) (s3.L.length : Int)) < (s3.L.length : Int) := c40
   obtain ⟨b44, of45, cs41, hA46, hr42, hc43⟩ := HR6.at (i := Int.tmod (w64 ((w64 (s3.vat + 1)) - 1)) (s3.L.length : Int)) c39 c40
   obtain rfl := hr42
   refine seqL1 (by kernel_rfl) ?_
   refine seqK rfl (does_run (run_indexE hA46 (sz := 1) rfl Tryd.underlying27 (by kernel_rfl) (by kernel_rfl : _ = Value.slice A4 s3.L.length c5) (by kernel_rfl : _ = Value.int .i64 (Int.tmod (w64 ((w64 (s3.vat + 1)) - 1)) (s3.L.length : Int))) c39 c40 W35) ?_)
   refine seqK rfl (does_run (run_load rfl Tryd.underlying3 rfl (by kernel_rfl : _ = Value.pointer (some ⟨b44, of45 + (Int.tmod (w64 ((w64 (s3.vat + 1)) - 1)) (s3.L.length : Int) : Int).toNat * 1, none⟩)) ((hc43 (FM.le.refl _) HS36) 0 (by decide))) ?_)
   have hq_ := bind_some h; clear h; obtain ⟨vt47, hc48, h⟩ := hq_
   refine seqK rfl (does_call (f := 6) (args := #[.int .i64 (rd s3.L (Int.tmod (w64 ((w64 (s3.vat + 1)) - 1)) (s3.L.length : Int))), .int .i64 1073741824]) (by kernel_rfl) (spymake_Below.calls k (rd s3.L (Int.tmod (w64 ((w64 (s3.vat + 1)) - 1)) (s3.L.length : Int))) 1073741824 HS36 vt47 hc48) ?_)
   rintro _ W51 ⟨f49, rfl, L50, HS52⟩
   refine ⟨_, rfl, ?_⟩
   have hq_ := bind_some h; clear h; obtain ⟨vt53, hc54, h⟩ := hq_
   refine seqL6 (by kernel_rfl) ?_
   refine seqK rfl (does_call (f := 6) (args := #[.int .i64 (w64 (vt47 + (w64 ((w64 (Int.tdiv (w64 ((w64 (s3.vat + 1)) - 1)) (s3.L.length : Int))) * (w64 (7919 + (Int.tmod (w64 ((w64 (s3.vat + 1)) - 1)) (s3.L.length : Int)))))))), .int .i64 n7]) (by kernel_rfl) (spymake_Below.calls k (w64 (vt47 + (w64 ((w64 (Int.tdiv (w64 ((w64 (s3.vat + 1)) - 1)) (s3.L.length : Int))) * (w64 (7919 + (Int.tmod (w64 ((w64 (s3.vat + 1)) - 1)) (s3.L.length : Int)))))))) n7 HS52 vt53 hc54) ?_)
   rintro _ W57 ⟨f55, rfl, L56, HS58⟩
   refine ⟨_, rfl, ?_⟩
   refine seqS1 (a' := ⟨#[pV b1 0, iV n7, uV, uV, iV vt53, iV (Int.tmod (w64 ((w64 (s3.vat + 1)) - 1)) (s3.L.length : Int)), iV (w64 (Int.tdiv (w64 ((w64 (s3.vat + 1)) - 1)) (s3.L.length : Int))), pV b1 0, pV b1 0, pV b1 1, iV s3.vat, iV (w64 (s3.vat + 1)), pV b1 0, pV b1 1, pV b1 0, pV b1 0, pV b1 0, .slice A4 s3.L.length c5, iV (s3.L.length : Int), fV, uV, uV, uV, uV, uV, uV, uV, pV b1 0, pV b1 0, pV b1 1, iV (w64 (s3.vat + 1)), iV (w64 ((w64 (s3.vat + 1)) - 1)), pV b1 0, pV b1 0, pV b1 0, .slice A4 s3.L.length c5, iV (s3.L.length : Int), iV (Int.tmod (w64 ((w64 (s3.vat + 1)) - 1)) (s3.L.length : Int)), pV b1 0, pV b1 0, pV b1 1, iV (w64 (s3.vat + 1)), iV (w64 ((w64 (s3.vat + 1)) - 1)), pV b1 0, pV b1 0, pV b1 0, .slice A4 s3.L.length c5, iV (s3.L.length : Int), iV (w64 (Int.tdiv (w64 ((w64 (s3.vat + 1)) - 1)) (s3.L.length : Int))), pV b1 0, pV b1 0, pV b1 0, .slice A4 s3.L.length c5, iV (Int.tmod (w64 ((w64 (s3.vat + 1)) - 1)) (s3.L.length : Int)), pV b44 (of45 + (Int.tmod (w64 ((w64 (s3.vat + 1)) - 1)) (s3.L.length : Int) : Int).toNat * 1), iV (rd s3.L (Int.tmod (w64 ((w64 (s3.vat + 1)) - 1)) (s3.L.length : Int))), iV vt47, iV (w64 (Int.tdiv (w64 ((w64 (s3.vat + 1)) - 1)) (s3.L.length : Int))), iV (Int.tmod (w64 ((w64 (s3.vat + 1)) - 1)) (s3.L.length : Int)), iV (w64 (7919 + (Int.tmod (w64 ((w64 (s3.vat + 1)) - 1)) (s3.L.length : Int)))), iV (w64 ((w64 (Int.tdiv (w64 ((w64 (s3.vat + 1)) - 1)) (s3.L.length : Int))) * (w64 (7919 + (Int.tmod (w64 ((w64 (s3.vat + 1)) - 1)) (s3.L.length : Int)))))), iV (w64 (vt47 + (w64 ((w64 (Int.tdiv (w64 ((w64 (s3.vat + 1)) - 1)) (s3.L.length : Int))) * (w64 (7919 + (Int.tmod (w64 ((w64 (s3.vat + 1)) - 1)) (s3.L.length : Int)))))))), iV n7, iV vt53], []⟩) (by kernel_rfl) ?_
   refine wpList_nil ?_
   refine hK38 _ _ ?_
   refine wp_ret ?_
   refine hret _ _ ?_
   refine ends_still (v := Value.int .i64 vt53) (by kernel_rfl) (by kernel_rfl) ?_
   injection h with h
   injection h with h0_ h
   subst h0_ h
   exact ⟨f55, rfl, (L50.trans L56), HS58⟩

set_option maxRecDepth 100000 in
set_option maxHeartbeats 4000000 in
theorem spymake_Stream_Range.calls (k : Nat) (b1 : Nat) (A4 : Option Addr) (c5 : Nat) (s3 : S_Stream) (low7 : Int) (high8 : Int) {t w : World} {f : FM} {H : List Seg} (HS : St t w f ([(b1, .cells #[.slice A4 s3.L.length c5, .int .i64 s3.vat] 37 (0, 0))] :: H)) (HR6 : SlR (tInt .i64) f A4 c5 s3.L) (rr1 : Int) (rr2 : Int) (h : spymake_Stream_Range k s3 low7 high8 = some (rr1, rr2)) :
    Calls Tryd.prog 24 #[.pointer (some ⟨b1, 0, none⟩), .int .i64 low7, .int .i64 high8] w (fun e w' => ∃ (g : FM), e = .returned (Value.int .i64 rr1) ∧ FM.le f g ∧ St t w' g ([(b1, .cells #[.slice A4 s3.L.length c5, .int .i64 rr2] 37 (0, 0))] :: H)) := by
 unfold spymake_Stream_Range at h
 refine enter Tryd.func24 rfl (tm := #[pV b1 0, iV low7, iV high8, uV, uV, uV, uV, uV, uV, uV, uV, uV, uV, uV, uV, uV, uV, uV, uV]) (by kernel_rfl) ?_
 intro B hret hnor hnp
 refine wp_seq_k (fun K9 hK10 => ?_)
 refine wp_region_lit ?_
 refine seqS1 (a' := ⟨#[pV b1 0, iV low7, iV high8, uV, uV, uV, iV 0, uV, uV, uV, uV, uV, uV, uV, uV, uV, uV, uV, uV], []⟩) (by kernel_rfl) ?_
 refine wpList_nil ?_
 refine hK10 _ _ ?_
 refine wp_seq_k (fun K11 hK12 => ?_)
 refine wp_seq_k (fun K13 hK14 => ?_)
 refine wp_region_lit ?_
 refine seqS3 (a' := ⟨#[pV b1 0, iV low7, iV high8, uV, uV, uV, iV 0, iV high8, iV low7, .bool (decide (high8 < low7)), uV, uV, uV, uV, uV, uV, uV, uV, uV], []⟩) (by kernel_rfl) ?_
 refine wpList_nil ?_
 refine hK14 _ _ ?_
 have hq_ := ite_some h; clear h; rcases hq_ with ⟨c16, h⟩ | ⟨c16, h⟩
 · have c16 : high8 < low7 := c16
   refine wpRwI 9 (x := (decide (high8 < low7))) (v := true) (by kernel_rfl) (decide_eq_true c16) ?_
   refine condT (by kernel_rfl) ?_
   refine wp_seq_k (fun K17 hK18 => ?_)
   refine wp_region_lit ?_
   refine seqS2 (a' := ⟨#[pV b1 0, iV low7, iV high8, uV, uV, uV, iV low7, iV high8, iV low7, tV, iV low7, uV, uV, uV, uV, uV, uV, uV, uV], []⟩) (by kernel_rfl) ?_
   refine wpList_nil ?_
   refine hK18 _ _ ?_
   refine wp_ret ?_
   refine hret _ _ ?_
   refine ends_still (v := Value.int .i64 low7) (by kernel_rfl) (by kernel_rfl) ?_
   injection h with h
   injection h with h0_ h
   subst h0_ h
   exact ⟨f, rfl, FM.le.refl _, HS⟩
 · have c16 : ¬ (high8 < low7) := c16
   refine wpRwI 9 (x := (decide (high8 < low7))) (v := false) (by kernel_rfl) (decide_eq_false c16) ?_
   refine condF (by kernel_rfl) ?_
   refine wp_skip ?_
   refine hK12 _ _ ?_
   refine wp_seq_k (fun K19 hK20 => ?_)
   refine wp_region_lit ?_
   have hq_ := bind_some h; clear h; obtain ⟨⟨vt21, vt22⟩, hc23, h⟩ := hq_
   refine seqL6 (by kernel_rfl) ?_
   refine seqK rfl (does_call (f := 23) (args := #[.pointer (some ⟨b1, 0, none⟩), .int .i64 (w64 ((w64 (high8 - low7)) + 1))]) (by kernel_rfl) (spymake_Stream_Next.calls k b1 A4 c5 s3 (w64 ((w64 (high8 - low7)) + 1)) HS HR6 vt21 vt22 hc23) ?_)
   rintro _ W26 ⟨f24, rfl, L25, HS27⟩
   refine ⟨_, rfl, ?_⟩
   refine seqS2 (a' := ⟨#[pV b1 0, iV low7, iV high8, uV, uV, uV, iV (w64 (low7 + vt21)), iV high8, iV low7, fV, uV, iV low7, pV b1 0, iV high8, iV low7, iV (w64 (high8 - low7)), iV (w64 ((w64 (high8 - low7)) + 1)), iV vt21, iV (w64 (low7 + vt21))], []⟩) (by kernel_rfl) ?_
   refine wpList_nil ?_
   refine hK20 _ _ ?_
   refine wp_ret ?_
   refine hret _ _ ?_
   refine ends_still (v := Value.int .i64 (w64 (low7 + vt21))) (by kernel_rfl) (by kernel_rfl) ?_
   injection h with h
   injection h with h0_ h
   subst h0_ h
   exact ⟨f24, rfl, L25, HS27⟩

set_option maxRecDepth 100000 in
set_option maxHeartbeats 4000000 in
theorem spymake_Stream_Sensor.calls (k : Nat) (b1 : Nat) (A4 : Option Addr) (c5 : Nat) (s3 : S_Stream) (most7 : Int) {t w : World} {f : FM} {H : List Seg} (HS : St t w f ([(b1, .cells #[.slice A4 s3.L.length c5, .int .i64 s3.vat] 37 (0, 0))] :: H)) (HR6 : SlR (tInt .i64) f A4 c5 s3.L) (rr1 : S_Sensor) (rr2 : Int) (h : spymake_Stream_Sensor k s3 most7 = some (rr1, rr2)) :
    Calls Tryd.prog 19 #[.pointer (some ⟨b1, 0, none⟩), .int .i64 most7] w (fun e w' => ∃ (g : FM) (A578 : Option Addr) (c579 : Nat) (s580 : Seg) (A581 : Option Addr) (c582 : Nat) (s583 : Seg) (A584 : Option Addr) (c585 : Nat) (s586 : Seg), e = .returned (Value.agg #[.int .i64 rr1.W, .int .i64 rr1.H, .slice A578 rr1.Bias.length c579, .slice A581 rr1.Dark.length c582, .slice A584 rr1.Flat.length c585, .int .i64 rr1.Full, .int .i64 rr1.Gain, .int .i64 rr1.Noise]) ∧ FM.le f g ∧ St t w' g (s580 :: s583 :: s586 :: [(b1, .cells #[.slice A4 s3.L.length c5, .int .i64 rr2] 37 (0, 0))] :: H) ∧ Own (tInt .i64) 3 g A578 c579 s580 rr1.Bias ∧ Own (tInt .i64) 88 g A581 c582 s583 rr1.Dark ∧ Own (tInt .i64) 3 g A584 c585 s586 rr1.Flat) := by
 unfold spymake_Stream_Sensor at h
 refine enter Tryd.func19 rfl (tm := #[pV b1 0, iV most7, uV, uV, uV, uV, uV, uV, uV, uV, uV, uV, uV, uV, uV, uV, uV, uV, uV, uV, uV, uV, uV, uV, uV, uV, uV, uV, uV, uV, uV, uV, uV, uV, uV, uV, uV, uV, uV, uV, uV, uV, uV, uV, uV, uV, uV, uV, uV, uV, uV, uV, uV, uV, uV, uV, uV, uV, uV, uV, uV, uV, uV, uV, uV, uV, uV, uV, uV, uV, uV, uV, uV, uV, uV, uV, uV, uV, uV, uV]) (by kernel_rfl) ?_
 intro B hret hnor hnp
 refine wp_seq_k (fun K8 hK9 => ?_)
 refine wp_region_lit ?_
 refine seqK rfl (does_alloc (z := Value.agg #[.int .i64 0, .int .i64 0, .slice none 0 0, .slice none 0 0, .slice none 0 0, .int .i64 0, .int .i64 0, .int .i64 0]) (cs := #[.int .i64 0, .int .i64 0, .slice none 0 0, .slice none 0 0, .slice none 0 0, .int .i64 0, .int .i64 0, .int .i64 0]) rfl (by kernel_rfl) rfl HS ?_)
 intro b10 W11 HS12
 refine wpList_nil ?_
 refine hK9 _ _ ?_
 refine wp_seq_k (fun K14 hK15 => ?_)
 refine wp_region_lit ?_
 have HS16 := HS12.u1
 have hq_ := bind_some h; clear h; obtain ⟨⟨vt17, vt18⟩, hc19, h⟩ := hq_
 refine seqL2 (by kernel_rfl) ?_
 refine seqK rfl (does_call (f := 24) (args := #[.pointer (some ⟨b1, 0, none⟩), .int .i64 1, .int .i64 most7]) (by kernel_rfl) (spymake_Stream_Range.calls k b1 A4 c5 s3 1 most7 HS16 HR6 vt17 vt18 hc19) ?_)
 rintro _ W22 ⟨f20, rfl, L21, HS23⟩
 refine ⟨_, rfl, ?_⟩
 have hq_ := bind_some h; clear h; obtain ⟨⟨vt24, vt25⟩, hc26, h⟩ := hq_
 refine seqL2 (by kernel_rfl) ?_
 refine seqK rfl (does_call (f := 24) (args := #[.pointer (some ⟨b1, 0, none⟩), .int .i64 1, .int .i64 most7]) (by kernel_rfl) (spymake_Stream_Range.calls k b1 A4 c5 (⟨s3.L, vt18⟩ : S_Stream) 1 most7 HS23 (HR6.mono L21) vt24 vt25 hc26) ?_)
 rintro _ W29 ⟨f27, rfl, L28, HS30⟩
 refine ⟨_, rfl, ?_⟩
 have hq_ := bind_some h; clear h; obtain ⟨⟨vt31, vt32⟩, hc33, h⟩ := hq_
 refine seqL1 (by kernel_rfl) ?_
 refine seqK rfl (does_call (f := 24) (args := #[.pointer (some ⟨b1, 0, none⟩), .int .i64 20000, .int .i64 1048576]) (by kernel_rfl) (spymake_Stream_Range.calls k b1 A4 c5 (⟨s3.L, vt25⟩ : S_Stream) 20000 1048576 HS30 (HR6.mono (L21.trans L28)) vt31 vt32 hc33) ?_)
 rintro _ W36 ⟨f34, rfl, L35, HS37⟩
 refine ⟨_, rfl, ?_⟩
 have hq_ := bind_some h; clear h; obtain ⟨⟨vt38, vt39⟩, hc40, h⟩ := hq_
 refine seqL1 (by kernel_rfl) ?_
 refine seqK rfl (does_call (f := 24) (args := #[.pointer (some ⟨b1, 0, none⟩), .int .i64 1, .int .i64 4]) (by kernel_rfl) (spymake_Stream_Range.calls k b1 A4 c5 (⟨s3.L, vt32⟩ : S_Stream) 1 4 HS37 (HR6.mono (L21.trans (L28.trans L35))) vt38 vt39 hc40) ?_)
 rintro _ W43 ⟨f41, rfl, L42, HS44⟩
 refine ⟨_, rfl, ?_⟩
 have hq_ := bind_some h; clear h; obtain ⟨⟨vt45, vt46⟩, hc47, h⟩ := hq_
 refine seqL1 (by kernel_rfl) ?_
 refine seqK rfl (does_call (f := 23) (args := #[.pointer (some ⟨b1, 0, none⟩), .int .i64 4]) (by kernel_rfl) (spymake_Stream_Next.calls k b1 A4 c5 (⟨s3.L, vt39⟩ : S_Stream) 4 HS44 (HR6.mono (L21.trans (L28.trans (L35.trans L42)))) vt45 vt46 hc47) ?_)
 rintro _ W50 ⟨f48, rfl, L49, HS51⟩
 refine ⟨_, rfl, ?_⟩
 refine seqL1 (by kernel_rfl) ?_
 refine seqK rfl (does_alloc (z := Value.agg #[.int .i64 0, .int .i64 0, .slice none 0 0, .slice none 0 0, .slice none 0 0, .int .i64 0, .int .i64 0, .int .i64 0]) (cs := #[.int .i64 0, .int .i64 0, .slice none 0 0, .slice none 0 0, .slice none 0 0, .int .i64 0, .int .i64 0, .int .i64 0]) rfl (by kernel_rfl) rfl HS51 ?_)
 intro b52 W53 HS54
 refine seqK rfl (does_store (n := 8) (vs := [.int .i64 vt17, .int .i64 vt24, .slice none 0 0, .slice none 0 0, .slice none 0 0, .int .i64 vt31, .int .i64 vt38, .int .i64 vt45]) (cs' := #[.int .i64 vt17, .int .i64 vt24, .slice none 0 0, .slice none 0 0, .slice none 0 0, .int .i64 vt31, .int .i64 vt38, .int .i64 vt45]) rfl (by kernel_rfl) (by kernel_rfl : _ = Value.pointer (some ⟨b52, 0, none⟩)) (by kernel_rfl : _ = Value.agg #[.int .i64 vt17, .int .i64 vt24, .slice none 0 0, .slice none 0 0, .slice none 0 0, .int .i64 vt31, .int .i64 vt38, .int .i64 vt45]) rfl rfl (by intro u_ hu_; simp only [List.mem_cons, List.not_mem_nil, or_false] at hu_; rcases hu_ with rfl | rfl | rfl | rfl | rfl | rfl | rfl | rfl <;> rfl) HS54 (Nat.le_of_ble_eq_true rfl) (by kernel_rfl) ?_)
 intro W56 HS57
 refine wpList_nil ?_
 refine hK15 _ _ ?_
 refine wp_seq_k (fun K58 hK59 => ?_)
 refine wp_seq_k (fun K60 hK61 => ?_)
 refine wp_region_lit ?_
 have HS62 := HS57.u1
 have hq_ := bind_some h; clear h; obtain ⟨⟨vt63, vt64⟩, hc65, h⟩ := hq_
 refine seqL1 (by kernel_rfl) ?_
 refine seqK rfl (does_call (f := 23) (args := #[.pointer (some ⟨b1, 0, none⟩), .int .i64 6]) (by kernel_rfl) (spymake_Stream_Next.calls k b1 A4 c5 (⟨s3.L, vt46⟩ : S_Stream) 6 HS62 (HR6.mono (L21.trans (L28.trans (L35.trans (L42.trans L49))))) vt63 vt64 hc65) ?_)
 rintro _ W68 ⟨f66, rfl, L67, HS69⟩
 refine ⟨_, rfl, ?_⟩
 refine wpList_nil ?_
 refine hK61 _ _ ?_
 refine blockK (fun B70 hx71 hn72 hr73 ho74 hp75 => ?_)
 refine wp_seq_k (fun K77 hK78 => ?_)
 refine wp_region_lit ?_
 refine seqS2 (a' := ⟨#[pV b1 0, iV most7, uV, uV, pV b10 0, pV b52 0, uV, uV, pV b1 0, iV most7, iV vt17, pV b1 0, iV most7, iV vt24, pV b1 0, iV vt31, pV b1 0, iV vt38, pV b1 0, iV vt45, .agg #[iV vt17, iV vt24, .slice none 0 0, .slice none 0 0, .slice none 0 0, iV vt31, iV vt38, iV vt45], pV b1 0, iV vt63, .bool (vt63 == 0), .bool (vt63 == 0), uV, uV, uV, uV, uV, uV, uV, uV, uV, uV, uV, uV, uV, uV, uV, uV, uV, uV, uV, uV, uV, uV, uV, uV, uV, uV, uV, uV, uV, uV, uV, uV, uV, uV, uV, uV, uV, uV, uV, uV, uV, uV, uV, uV, uV, uV, uV, uV, uV, uV, uV, uV, uV, uV, uV], []⟩) (by kernel_rfl) ?_
 refine wpList_nil ?_
 refine hK78 _ _ ?_
 have hq_ := bind_some h; clear h; obtain ⟨v79, hv137, h⟩ := hq_
 have J138 : ∀ (f128 : FM) (x133 : Int) (x134 : Int) (x135 : Int) (x136 : Int) (j132 : Nat → Value) (W130 : World) (a_ : Act), FM.le f66 f128 → some ((x133, x134, x135, x136)) = some v79 → St t W130 f128 ([(b1, .cells #[.slice A4 s3.L.length c5, .int .i64 x133] 37 (0, 0))] :: [(b52, .cells #[.int .i64 vt17, .int .i64 vt24, .slice none 0 0, .slice none 0 0, .slice none 0 0, .int .i64 x134, .int .i64 x135, .int .i64 x136] 56 (0, 0))] :: [(b10, .cells #[.int .i64 0, .int .i64 0, .slice none 0 0, .slice none 0 0, .slice none 0 0, .int .i64 0, .int .i64 0, .int .i64 0] 56 (0, 0))] :: H) → a_ = ⟨#[pV b1 0, iV most7, uV, uV, pV b10 0, pV b52 0, uV, uV, pV b1 0, iV most7, iV vt17, pV b1 0, iV most7, iV vt24, pV b1 0, iV vt31, pV b1 0, iV vt38, pV b1 0, iV vt45, .agg #[iV vt17, iV vt24, .slice none 0 0, .slice none 0 0, .slice none 0 0, iV vt31, iV vt38, iV vt45], pV b1 0, iV vt63, .bool (vt63 == 0), .bool (vt63 == 0), (j132 0), (j132 1), (j132 2), (j132 3), (j132 4), (j132 5), (j132 6), (j132 7), (j132 8), (j132 9), (j132 10), uV, uV, uV, uV, uV, uV, uV, uV, uV, uV, uV, uV, uV, uV, uV, uV, uV, uV, uV, uV, uV, uV, uV, uV, uV, uV, uV, uV, uV, uV, uV, uV, uV, uV, uV, uV, uV, uV, uV, uV, uV, uV, uV, uV], []⟩ → B70 Exit.normal a_ W130 := by
  intro f128 x133 x134 x135 x136 j132 W130 a_ L129 hj139 HS131  hfr_; subst hfr_
  injection hj139 with hj139; subst hj139; try dsimp only at h
  refine hn72 _ _ ?_
  refine hK59 _ _ ?_
  refine wp_seq_k (fun K143 hK144 => ?_)
  refine wp_region_lit ?_
  have hq_ := bind_some h; clear h; obtain ⟨⟨vt145, vt146⟩, hc147, h⟩ := hq_
  refine seqL1 (by kernel_rfl) ?_
  refine seqK rfl (does_call (f := 23) (args := #[.pointer (some ⟨b1, 0, none⟩), .int .i64 3]) (by kernel_rfl) (spymake_Stream_Next.calls k b1 A4 c5 (⟨s3.L, x133⟩ : S_Stream) 3 HS131 (HR6.mono (L21.trans (L28.trans (L35.trans (L42.trans (L49.trans (L67.trans L129))))))) vt145 vt146 hc147) ?_)
  rintro _ W150 ⟨f148, rfl, L149, HS151⟩
  refine ⟨_, rfl, ?_⟩
  refine seqS1 (a' := ⟨#[pV b1 0, iV most7, uV, uV, pV b10 0, pV b52 0, iV vt145, uV, pV b1 0, iV most7, iV vt17, pV b1 0, iV most7, iV vt24, pV b1 0, iV vt31, pV b1 0, iV vt38, pV b1 0, iV vt45, .agg #[iV vt17, iV vt24, .slice none 0 0, .slice none 0 0, .slice none 0 0, iV vt31, iV vt38, iV vt45], pV b1 0, iV vt63, .bool (vt63 == 0), .bool (vt63 == 0), (j132 0), (j132 1), (j132 2), (j132 3), (j132 4), (j132 5), (j132 6), (j132 7), (j132 8), (j132 9), (j132 10), pV b1 0, iV vt145, uV, uV, uV, uV, uV, uV, uV, uV, uV, uV, uV, uV, uV, uV, uV, uV, uV, uV, uV, uV, uV, uV, uV, uV, uV, uV, uV, uV, uV, uV, uV, uV, uV, uV, uV, uV, uV, uV, uV, uV, uV, uV], []⟩) (by kernel_rfl) ?_
  refine wpList_nil ?_
  refine hK144 _ _ ?_
  refine wp_seq_k (fun K152 hK153 => ?_)
  refine wp_seq_k (fun K154 hK155 => ?_)
  refine wp_region_lit ?_
  refine seqL1 (by kernel_rfl) ?_
  refine seqK rfl (does_run (run_load rfl Tryd.underlying3 rfl (by kernel_rfl : _ = Value.pointer (some ⟨b52, 0, none⟩)) (HS151.u1.cell 0)) ?_)
  refine seqL1 (by kernel_rfl) ?_
  refine seqK rfl (does_run (run_load rfl Tryd.underlying3 rfl (by kernel_rfl : _ = Value.pointer (some ⟨b52, 1, none⟩)) (HS151.u1.cell 1)) ?_)
  refine seqS2 (a' := ⟨#[pV b1 0, iV most7, uV, uV, pV b10 0, pV b52 0, iV vt145, uV, pV b1 0, iV most7, iV vt17, pV b1 0, iV most7, iV vt24, pV b1 0, iV vt31, pV b1 0, iV vt38, pV b1 0, iV vt45, .agg #[iV vt17, iV vt24, .slice none 0 0, .slice none 0 0, .slice none 0 0, iV vt31, iV vt38, iV vt45], pV b1 0, iV vt63, .bool (vt63 == 0), .bool (vt63 == 0), (j132 0), (j132 1), (j132 2), (j132 3), (j132 4), (j132 5), (j132 6), (j132 7), (j132 8), (j132 9), (j132 10), pV b1 0, iV vt145, pV b52 0, iV vt17, pV b52 1, iV vt24, iV (w64 (vt17 * vt24)), iV 0, uV, uV, uV, uV, uV, uV, uV, uV, uV, uV, uV, uV, uV, uV, uV, uV, uV, uV, uV, uV, uV, uV, uV, uV, uV, uV, uV, uV, uV, uV, uV, uV, uV, uV, uV, uV], []⟩) (by kernel_rfl) ?_
  refine wpList_nil ?_
  refine hK155 _ _ ?_
  refine blockK (fun B156 hx157 hn158 hr159 ho160 hp161 => ?_)
  have hq_ := bind_some h; clear h; obtain ⟨o331, hv544, h⟩ := hq_
  have J545 : ∀ (f520 : FM) (A527 : Option Addr) (c528 : Nat) (s529 : Seg) (A533 : Option Addr) (c534 : Nat) (s535 : Seg) (A539 : Option Addr) (c540 : Nat) (s541 : Seg) (x525 : Int) (x526 : List Int) (x532 : List Int) (x538 : List Int) (j524 : Nat → Value) (W522 : World) (a_ : Act), FM.le f148 f520 → some ((x525, x526, x532, x538)) = some o331 → St t W522 f520 (s541 :: s535 :: s529 :: [(b1, .cells #[.slice A4 s3.L.length c5, .int .i64 x525] 37 (0, 0))] :: [(b52, .cells #[.int .i64 vt17, .int .i64 vt24, .slice A527 x526.length c528, .slice A533 x532.length c534, .slice A539 x538.length c540, .int .i64 x134, .int .i64 x135, .int .i64 x136] 56 (0, 0))] :: [(b10, .cells #[.int .i64 0, .int .i64 0, .slice none 0 0, .slice none 0 0, .slice none 0 0, .int .i64 0, .int .i64 0, .int .i64 0] 56 (0, 0))] :: H) → Own (tInt .i64) 3 f520 A527 c528 s529 x526 → Own (tInt .i64) 88 f520 A533 c534 s535 x532 → Own (tInt .i64) 3 f520 A539 c540 s541 x538 → a_ = ⟨#[pV b1 0, iV most7, uV, uV, pV b10 0, pV b52 0, iV vt145, (j524 0), pV b1 0, iV most7, iV vt17, pV b1 0, iV most7, iV vt24, pV b1 0, iV vt31, pV b1 0, iV vt38, pV b1 0, iV vt45, .agg #[iV vt17, iV vt24, .slice none 0 0, .slice none 0 0, .slice none 0 0, iV vt31, iV vt38, iV vt45], pV b1 0, iV vt63, .bool (vt63 == 0), .bool (vt63 == 0), (j132 0), (j132 1), (j132 2), (j132 3), (j132 4), (j132 5), (j132 6), (j132 7), (j132 8), (j132 9), (j132 10), pV b1 0, iV vt145, pV b52 0, iV vt17, pV b52 1, iV vt24, iV (w64 (vt17 * vt24)), (j524 1), (j524 2), (j524 3), (j524 4), (j524 5), (j524 6), (j524 7), (j524 8), (j524 9), (j524 10), (j524 11), (j524 12), (j524 13), (j524 14), (j524 15), (j524 16), (j524 17), (j524 18), (j524 19), (j524 20), (j524 21), (j524 22), (j524 23), (j524 24), (j524 25), (j524 26), (j524 27), (j524 28), (j524 29), (j524 30), (j524 31), (j524 32), (j524 33), (j524 34), (j524 35), (j524 36), uV], []⟩ → K152 a_ W522 := by
   intro f520 A527 c528 s529 A533 c534 s535 A539 c540 s541 x525 x526 x532 x538 j524 W522 a_ L521 hj546 HS523 HO530 HO536 HO542 hfr_; subst hfr_
   injection hj546 with hj546; subst hj546; try dsimp only at h
   refine hK153 _ _ ?_
   refine wp_seq_k (fun K565 hK566 => ?_)
   refine wp_region_lit ?_
   refine seqK rfl (does_run (run_loadN (n := 8) rfl Tryd.underlying56 rfl (by kernel_rfl) (by kernel_rfl : _ = Value.pointer (some ⟨b52, 0, none⟩)) (cs := [.int .i64 vt17, .int .i64 vt24, .slice A527 x526.length c528, .slice A533 x532.length c534, .slice A539 x538.length c540, .int .i64 x134, .int .i64 x135, .int .i64 x136]) rfl (HS523.u4.cells 0 8 _ rfl)) ?_)
   have HS567 := HS523.u5
   refine seqK rfl (does_store (n := 8) (vs := [.int .i64 vt17, .int .i64 vt24, .slice A527 x526.length c528, .slice A533 x532.length c534, .slice A539 x538.length c540, .int .i64 x134, .int .i64 x135, .int .i64 x136]) (cs' := #[.int .i64 vt17, .int .i64 vt24, .slice A527 x526.length c528, .slice A533 x532.length c534, .slice A539 x538.length c540, .int .i64 x134, .int .i64 x135, .int .i64 x136]) rfl (by kernel_rfl) (by kernel_rfl : _ = Value.pointer (some ⟨b10, 0, none⟩)) (by kernel_rfl : _ = Value.agg #[.int .i64 vt17, .int .i64 vt24, .slice A527 x526.length c528, .slice A533 x532.length c534, .slice A539 x538.length c540, .int .i64 x134, .int .i64 x135, .int .i64 x136]) rfl rfl (by intro u_ hu_; simp only [List.mem_cons, List.not_mem_nil, or_false] at hu_; rcases hu_ with rfl | rfl | rfl | rfl | rfl | rfl | rfl | rfl <;> rfl) HS567 (Nat.le_of_ble_eq_true rfl) (by kernel_rfl) ?_)
   intro W568 HS569
   refine wpList_nil ?_
   refine hK566 _ _ ?_
   refine wp_ret ?_
   refine hret _ _ ?_
   refine ends (v := Value.agg #[.int .i64 vt17, .int .i64 vt24, .slice A527 x526.length c528, .slice A533 x532.length c534, .slice A539 x538.length c540, .int .i64 x134, .int .i64 x135, .int .i64 x136]) (results1 (q1 := .cell 4 56) (by kernel_rfl) (resN (n := 8) (cs := [.int .i64 vt17, .int .i64 vt24, .slice A527 x526.length c528, .slice A533 x532.length c534, .slice A539 x538.length c540, .int .i64 x134, .int .i64 x135, .int .i64 x136]) (by kernel_rfl : _ = Value.pointer (some ⟨b10, 0, none⟩)) Tryd.underlying56 rfl (by kernel_rfl) rfl (HS569.cells 0 8 _ rfl))) (by kernel_rfl) ?_
   have HS570 := HS569.u4
   have HS571 := HS570.u2
   have HS572 := HS571.u3
   have HS573 := HS572.u4
   have HS574 := HS573.u5
   have HS575 := HS574.u5
   have HS576 := HS575.drop
   have HS577 := HS576.drop
   injection h with h
   injection h with h0_ h
   subst h0_ h
   exact ⟨f520, A527, c528, s529, A533, c534, s535, A539, c540, s541, rfl, (L21.trans (L28.trans (L35.trans (L42.trans (L49.trans (L67.trans (L129.trans (L149.trans L521)))))))), HS577, HO530, HO536, HO542⟩
  clear h; have h := hv544; clear hv544
  have HS547 := HS151.cons_nil
  have HS549 := HS547.cons_nil
  have HS551 := HS549.cons_nil
  refine loopK (fun n_ a_ w_ => ∃ (f335 : FM) (A343 : Option Addr) (c344 : Nat) (s345 : Seg) (A349 : Option Addr) (c350 : Nat) (s351 : Seg) (A355 : Option Addr) (c356 : Nat) (s357 : Seg) (x340 : Int) (x341 : Int) (x342 : List Int) (x348 : List Int) (x354 : List Int) (j339 : Nat → Value), FM.le f148 f335 ∧ St t w_ f335 (s357 :: s351 :: s345 :: [(b1, .cells #[.slice A4 s3.L.length c5, .int .i64 x341] 37 (0, 0))] :: [(b52, .cells #[.int .i64 vt17, .int .i64 vt24, .slice A343 x342.length c344, .slice A349 x348.length c350, .slice A355 x354.length c356, .int .i64 x134, .int .i64 x135, .int .i64 x136] 56 (0, 0))] :: [(b10, .cells #[.int .i64 0, .int .i64 0, .slice none 0 0, .slice none 0 0, .slice none 0 0, .int .i64 0, .int .i64 0, .int .i64 0] 56 (0, 0))] :: H) ∧ Own (tInt .i64) 3 f335 A343 c344 s345 x342 ∧ Own (tInt .i64) 88 f335 A349 c350 s351 x348 ∧ Own (tInt .i64) 3 f335 A355 c356 s357 x354 ∧ spymake_Stream_Sensor.l0 k vt17 vt24 s3 vt145 n_ x340 x341 x342 x348 x354 = some o331 ∧ a_ = ⟨#[pV b1 0, iV most7, uV, uV, pV b10 0, pV b52 0, iV vt145, (j339 0), pV b1 0, iV most7, iV vt17, pV b1 0, iV most7, iV vt24, pV b1 0, iV vt31, pV b1 0, iV vt38, pV b1 0, iV vt45, .agg #[iV vt17, iV vt24, .slice none 0 0, .slice none 0 0, .slice none 0 0, iV vt31, iV vt38, iV vt45], pV b1 0, iV vt63, .bool (vt63 == 0), .bool (vt63 == 0), (j132 0), (j132 1), (j132 2), (j132 3), (j132 4), (j132 5), (j132 6), (j132 7), (j132 8), (j132 9), (j132 10), pV b1 0, iV vt145, pV b52 0, iV vt17, pV b52 1, iV vt24, iV (w64 (vt17 * vt24)), iV x340, (j339 1), (j339 2), (j339 3), (j339 4), (j339 5), (j339 6), (j339 7), (j339 8), (j339 9), (j339 10), (j339 11), (j339 12), (j339 13), (j339 14), (j339 15), (j339 16), (j339 17), (j339 18), (j339 19), (j339 20), (j339 21), (j339 22), (j339 23), (j339 24), (j339 25), (j339 26), (j339 27), (j339 28), (j339 29), (j339 30), (j339 31), (j339 32), (j339 33), (j339 34), (j339 35), uV], []⟩) k ⟨f148, none, 0, [], none, 0, [], none, 0, [], 0, vt146, ([] : List Int), ([] : List Int), ([] : List Int), (fun i_ => [undef, undef, undef, undef, undef, undef, undef, undef, undef, undef, undef, undef, undef, undef, undef, undef, undef, undef, undef, undef, undef, undef, undef, undef, undef, undef, undef, undef, undef, undef, undef, undef, undef, undef, undef, undef].getD i_ undef), (FM.le.refl _), HS551, (Own.nil _), (Own.nil _), (Own.nil _), h, (by kernel_rfl)⟩ ?_
  clear h
  rintro n334 _ W337 ⟨f335, A343, c344, s345, A349, c350, s351, A355, c356, s357, x340, x341, x342, x348, x354, j339, L336, HS338, HO346, HO352, HO358, h, rfl⟩ K332 hK333
  obtain _ | n334 := n334
  · exact nomatch h
  simp only [spymake_Stream_Sensor.l0] at h
  refine wp_seq_k (fun K360 hK361 => ?_)
  refine wp_region_lit ?_
  refine seqS1 (a' := ⟨#[pV b1 0, iV most7, uV, uV, pV b10 0, pV b52 0, iV vt145, (j339 0), pV b1 0, iV most7, iV vt17, pV b1 0, iV most7, iV vt24, pV b1 0, iV vt31, pV b1 0, iV vt38, pV b1 0, iV vt45, .agg #[iV vt17, iV vt24, .slice none 0 0, .slice none 0 0, .slice none 0 0, iV vt31, iV vt38, iV vt45], pV b1 0, iV vt63, .bool (vt63 == 0), .bool (vt63 == 0), (j132 0), (j132 1), (j132 2), (j132 3), (j132 4), (j132 5), (j132 6), (j132 7), (j132 8), (j132 9), (j132 10), pV b1 0, iV vt145, pV b52 0, iV vt17, pV b52 1, iV vt24, iV (w64 (vt17 * vt24)), iV x340, .bool (decide (x340 < (w64 (vt17 * vt24)))), (j339 2), (j339 3), (j339 4), (j339 5), (j339 6), (j339 7), (j339 8), (j339 9), (j339 10), (j339 11), (j339 12), (j339 13), (j339 14), (j339 15), (j339 16), (j339 17), (j339 18), (j339 19), (j339 20), (j339 21), (j339 22), (j339 23), (j339 24), (j339 25), (j339 26), (j339 27), (j339 28), (j339 29), (j339 30), (j339 31), (j339 32), (j339 33), (j339 34), (j339 35), uV], []⟩) (by kernel_rfl) ?_
  refine wpList_nil ?_
  refine hK361 _ _ ?_
  refine wp_seq_k (fun K362 hK363 => ?_)
  have hq_ := ite_some h; clear h; rcases hq_ with ⟨c365, h⟩ | ⟨c365, h⟩
  · have c365 : x340 < (w64 (vt17 * vt24)) := c365
    refine wpRwI 44 (x := (decide (x340 < (w64 (vt17 * vt24))))) (v := true) (by kernel_rfl) (decide_eq_true c365) ?_
    refine condT (by kernel_rfl) ?_
    refine wp_skip ?_
    refine hK363 _ _ ?_
    refine wp_seq_k (fun K366 hK367 => ?_)
    refine blockK (fun B368 hx369 hn370 hr371 ho372 hp373 => ?_)
    refine wp_seq_k (fun K375 hK376 => ?_)
    have HS377 := HS338.u5
    have HS378 := HS377.u2
    have HS379 := HS378.u2
    have HS380 := HS379.u5
    have HS381 := HS380.u5
    have HS382 := HS381.u5
    refine heldG (S := Sg t f335 (s357 :: s351 :: [(b10, .cells #[.int .i64 0, .int .i64 0, .slice none 0 0, .slice none 0 0, .slice none 0 0, .int .i64 0, .int .i64 0, .int .i64 0] 56 (0, 0))] :: H) [(5, s345), (3, [(b1, .cells #[.slice A4 s3.L.length c5, .int .i64 x341] 37 (0, 0))]), (5, [(b52, .cells #[.int .i64 vt17, .int .i64 vt24, .slice A343 x342.length c344, .slice A349 x348.length c350, .slice A355 x354.length c356, .int .i64 x134, .int .i64 x135, .int .i64 x136] 56 (0, 0))])]) (n := 8) (by kernel_rfl) rfl HS382 ?_
    intro W383 HS384
    refine takeG [0] (n := 8) (fuel := 7) (l' := #[true, false, false, false, false, false, false, false]) (a' := ⟨#[pV b1 0, iV most7, uV, uV, pV b10 0, pV b52 0, iV vt145, (j339 0), pV b1 0, iV most7, iV vt17, pV b1 0, iV most7, iV vt24, pV b1 0, iV vt31, pV b1 0, iV vt38, pV b1 0, iV vt45, .agg #[iV vt17, iV vt24, .slice none 0 0, .slice none 0 0, .slice none 0 0, iV vt31, iV vt38, iV vt45], pV b1 0, iV vt63, .bool (vt63 == 0), .bool (vt63 == 0), (j132 0), (j132 1), (j132 2), (j132 3), (j132 4), (j132 5), (j132 6), (j132 7), (j132 8), (j132 9), (j132 10), pV b1 0, iV vt145, pV b52 0, iV vt17, pV b52 1, iV vt24, iV (w64 (vt17 * vt24)), iV x340, tV, pV b52 2, (j339 3), (j339 4), (j339 5), (j339 6), (j339 7), (j339 8), (j339 9), (j339 10), (j339 11), (j339 12), (j339 13), (j339 14), (j339 15), (j339 16), (j339 17), (j339 18), (j339 19), (j339 20), (j339 21), (j339 22), (j339 23), (j339 24), (j339 25), (j339 26), (j339 27), (j339 28), (j339 29), (j339 30), (j339 31), (j339 32), (j339 33), (j339 34), (j339 35), uV], []⟩) rfl (by kernel_rfl) (by kernel_rfl) (by kernel_rfl) (fun ch_ a_ w_ q_ => (fun ch_ a_ w_ q_ => hnp ch_ a_ w_ (hp161 ch_ a_ w_ q_)) ch_ a_ w_ (hp373 ch_ a_ w_ q_)) (Sg.g3 (Sx.of [s345, [(b1, .cells #[.slice A4 s3.L.length c5, .int .i64 x341] 37 (0, 0))], [(b52, .cells #[.int .i64 vt17, .int .i64 vt24, .slice A343 x342.length c344, .slice A349 x348.length c350, .slice A355 x354.length c356, .int .i64 x134, .int .i64 x135, .int .i64 x136] 56 (0, 0))]] (FM.le.refl _) HS384) (fun _ => St.only [] HS384 (FM.le.refl _)) (fun _ => St.only [s345] HS384 (FM.le.refl _)) (fun _ => St.only [s345, [(b1, .cells #[.slice A4 s3.L.length c5, .int .i64 x341] 37 (0, 0))]] HS384 (FM.le.refl _))) ?_
    refine takeGQ 1 [5] rfl (by kernel_rfl) (by kernel_rfl) (by kernel_rfl) (by kernel_rfl) (by kernel_rfl) (by kernel_rfl) (fun ch_ a_ w_ q_ => (fun ch_ a_ w_ q_ => hnp ch_ a_ w_ (hp161 ch_ a_ w_ q_)) ch_ a_ w_ (hp373 ch_ a_ w_ q_)) (Sg.g3 (Sx.of [s345, [(b1, .cells #[.slice A4 s3.L.length c5, .int .i64 x341] 37 (0, 0))], [(b52, .cells #[.int .i64 vt17, .int .i64 vt24, .slice A343 x342.length c344, .slice A349 x348.length c350, .slice A355 x354.length c356, .int .i64 x134, .int .i64 x135, .int .i64 x136] 56 (0, 0))]] (FM.le.refl _) HS384) (fun _ => St.only [] HS384 (FM.le.refl _)) (fun _ => St.only [s345] HS384 (FM.le.refl _)) (fun _ => St.only [s345, [(b1, .cells #[.slice A4 s3.L.length c5, .int .i64 x341] 37 (0, 0))]] HS384 (FM.le.refl _))) (fun w_ hw_ => by obtain ⟨g_, hl_, hS_⟩ := hw_.seg (j := 5) (s := [(b52, .cells #[.int .i64 vt17, .int .i64 vt24, .slice A343 x342.length c344, .slice A349 x348.length c350, .slice A355 x354.length c356, .int .i64 x134, .int .i64 x135, .int .i64 x136] 56 (0, 0))]) (by simp) (by simp); exact run_load rfl Tryd.underlying27 rfl (by kernel_rfl : _ = Value.pointer (some ⟨b52, 2, none⟩)) (hS_.cell 2)) ?_
    refine takeG [2] (n := 6) (fuel := 5) (l' := #[true, true, true, false, false, false, false, false]) (a' := ⟨#[pV b1 0, iV most7, uV, uV, pV b10 0, pV b52 0, iV vt145, (j339 0), pV b1 0, iV most7, iV vt17, pV b1 0, iV most7, iV vt24, pV b1 0, iV vt31, pV b1 0, iV vt38, pV b1 0, iV vt45, .agg #[iV vt17, iV vt24, .slice none 0 0, .slice none 0 0, .slice none 0 0, iV vt31, iV vt38, iV vt45], pV b1 0, iV vt63, .bool (vt63 == 0), .bool (vt63 == 0), (j132 0), (j132 1), (j132 2), (j132 3), (j132 4), (j132 5), (j132 6), (j132 7), (j132 8), (j132 9), (j132 10), pV b1 0, iV vt145, pV b52 0, iV vt17, pV b52 1, iV vt24, iV (w64 (vt17 * vt24)), iV x340, tV, pV b52 2, .slice A343 x342.length c344, pV b1 0, (j339 5), (j339 6), (j339 7), (j339 8), (j339 9), (j339 10), (j339 11), (j339 12), (j339 13), (j339 14), (j339 15), (j339 16), (j339 17), (j339 18), (j339 19), (j339 20), (j339 21), (j339 22), (j339 23), (j339 24), (j339 25), (j339 26), (j339 27), (j339 28), (j339 29), (j339 30), (j339 31), (j339 32), (j339 33), (j339 34), (j339 35), uV], []⟩) rfl (by kernel_rfl) (by kernel_rfl) (by kernel_rfl) (fun ch_ a_ w_ q_ => (fun ch_ a_ w_ q_ => hnp ch_ a_ w_ (hp161 ch_ a_ w_ q_)) ch_ a_ w_ (hp373 ch_ a_ w_ q_)) (Sg.g3 (Sx.of [s345, [(b1, .cells #[.slice A4 s3.L.length c5, .int .i64 x341] 37 (0, 0))], [(b52, .cells #[.int .i64 vt17, .int .i64 vt24, .slice A343 x342.length c344, .slice A349 x348.length c350, .slice A355 x354.length c356, .int .i64 x134, .int .i64 x135, .int .i64 x136] 56 (0, 0))]] (FM.le.refl _) HS384) (fun _ => St.only [] HS384 (FM.le.refl _)) (fun _ => St.only [s345] HS384 (FM.le.refl _)) (fun _ => St.only [s345, [(b1, .cells #[.slice A4 s3.L.length c5, .int .i64 x341] 37 (0, 0))]] HS384 (FM.le.refl _))) ?_
    have HS385 := HS384.u1
    have hq_ := bind_some h; clear h; obtain ⟨⟨vt386, vt387⟩, hc388, h⟩ := hq_
    refine takeGE 3 (by kernel_rfl) rfl (by kernel_rfl) (does_call (f := 23) (args := #[.pointer (some ⟨b1, 0, none⟩), .int .i64 60]) (by kernel_rfl) (spymake_Stream_Next.calls k b1 A4 c5 (⟨s3.L, x341⟩ : S_Stream) 60 HS385 (HR6.mono (L21.trans (L28.trans (L35.trans (L42.trans (L49.trans (L67.trans (L129.trans (L149.trans L336))))))))) vt386 vt387 hc388) ?_)
    rintro _ W391 ⟨f389, rfl, L390, HS392⟩
    refine ⟨_, rfl, ?_⟩
    refine ⟨(Sg.g3 (Sx.of [[(b1, .cells #[.slice A4 s3.L.length c5, .int .i64 vt387] 37 (0, 0))], s345, [(b52, .cells #[.int .i64 vt17, .int .i64 vt24, .slice A343 x342.length c344, .slice A349 x348.length c350, .slice A355 x354.length c356, .int .i64 x134, .int .i64 x135, .int .i64 x136] 56 (0, 0))]] L390 HS392) (fun _ => St.only [[(b1, .cells #[.slice A4 s3.L.length c5, .int .i64 vt387] 37 (0, 0))]] HS392 L390) (fun hl_ => Bool.noConfusion (show true = false from hl_)) (fun _ => St.only [[(b1, .cells #[.slice A4 s3.L.length c5, .int .i64 vt387] 37 (0, 0))], s345] HS392 L390)), ?_⟩
    refine takeGE 4 (by kernel_rfl) rfl (by kernel_rfl) (does_lit (e := (tInt .i64)) (E := 3) (vs := #[(0, Value.int .i64 vt386)]) (cs := #[.int .i64 vt386]) (xs := ([vt386] : List Int)) rfl Tryd.underlying27 (by kernel_rfl) (by kernel_rfl) ⟨[.int .i64 vt386], _, rfl, rfl, rfl⟩ rfl HS392 ?_ (by decide))
    intro b393 W394 s395 HS396 _ HO397
    refine ⟨(Sg.g3 (Sx.of [s395, [(b1, .cells #[.slice A4 s3.L.length c5, .int .i64 vt387] 37 (0, 0))], s345, [(b52, .cells #[.int .i64 vt17, .int .i64 vt24, .slice A343 x342.length c344, .slice A349 x348.length c350, .slice A355 x354.length c356, .int .i64 x134, .int .i64 x135, .int .i64 x136] 56 (0, 0))]] L390 HS396) (fun _ => St.only [s395, [(b1, .cells #[.slice A4 s3.L.length c5, .int .i64 vt387] 37 (0, 0))]] HS396 L390) (fun hl_ => Bool.noConfusion (show true = false from hl_)) (fun _ => St.only [s395, [(b1, .cells #[.slice A4 s3.L.length c5, .int .i64 vt387] 37 (0, 0))], s345] HS396 L390)), ?_⟩
    have hq_ := guard_some h; clear h; obtain ⟨c399, h⟩ := hq_
    have c399 : (x342.length + 1) * 8 ≤ 140737488355328 := c399
    have HS400 := HS396.u2
    have HS401 := HS400.u1
    refine takeGE 5 (by kernel_rfl) rfl (by kernel_rfl) (does_append1 (e := (tInt .i64)) (E := 3) (xs := x342) (ys := ([vt386] : List Int)) rfl (by kernel_rfl : _ = Value.slice A343 x342.length c344) (by kernel_rfl : _ = Value.slice (some ⟨b393, 0, none⟩) ([vt386] : List Int).length 1) Tryd.underlying27 inf3 (HO346.mono L390) HO397 HS401 c399 (lim63 c399 (by decide)) ?_)
    intro A402 c403 s404 W405 HS406 HO407
    refine ⟨(Sg.g3 (Sx.of [s404, [(b1, .cells #[.slice A4 s3.L.length c5, .int .i64 vt387] 37 (0, 0))], [(b52, .cells #[.int .i64 vt17, .int .i64 vt24, .slice A343 x342.length c344, .slice A349 x348.length c350, .slice A355 x354.length c356, .int .i64 x134, .int .i64 x135, .int .i64 x136] 56 (0, 0))]] L390 HS406) (fun hl_ => Bool.noConfusion (show true = false from hl_)) (fun hl_ => Bool.noConfusion (show true = false from hl_)) (fun hl_ => Bool.noConfusion (show true = false from hl_))), ?_⟩
    refine takeG [6] (n := 2) (fuel := 1) (l' := #[true, true, true, true, true, true, true, false]) (a' := ⟨#[pV b1 0, iV most7, uV, uV, pV b10 0, pV b52 0, iV vt145, (j339 0), pV b1 0, iV most7, iV vt17, pV b1 0, iV most7, iV vt24, pV b1 0, iV vt31, pV b1 0, iV vt38, pV b1 0, iV vt45, .agg #[iV vt17, iV vt24, .slice none 0 0, .slice none 0 0, .slice none 0 0, iV vt31, iV vt38, iV vt45], pV b1 0, iV vt63, .bool (vt63 == 0), .bool (vt63 == 0), (j132 0), (j132 1), (j132 2), (j132 3), (j132 4), (j132 5), (j132 6), (j132 7), (j132 8), (j132 9), (j132 10), pV b1 0, iV vt145, pV b52 0, iV vt17, pV b52 1, iV vt24, iV (w64 (vt17 * vt24)), iV x340, tV, pV b52 2, .slice A343 x342.length c344, pV b1 0, iV vt386, .slice (some ⟨b393, 0, none⟩) ([vt386] : List Int).length 1, .slice A402 (x342 ++ ([vt386] : List Int)).length c403, pV b52 2, (j339 9), (j339 10), (j339 11), (j339 12), (j339 13), (j339 14), (j339 15), (j339 16), (j339 17), (j339 18), (j339 19), (j339 20), (j339 21), (j339 22), (j339 23), (j339 24), (j339 25), (j339 26), (j339 27), (j339 28), (j339 29), (j339 30), (j339 31), (j339 32), (j339 33), (j339 34), (j339 35), uV], []⟩) rfl (by kernel_rfl) (by kernel_rfl) (by kernel_rfl) (fun ch_ a_ w_ q_ => (fun ch_ a_ w_ q_ => hnp ch_ a_ w_ (hp161 ch_ a_ w_ q_)) ch_ a_ w_ (hp373 ch_ a_ w_ q_)) (Sg.g3 (Sx.of [s404, [(b1, .cells #[.slice A4 s3.L.length c5, .int .i64 vt387] 37 (0, 0))], [(b52, .cells #[.int .i64 vt17, .int .i64 vt24, .slice A343 x342.length c344, .slice A349 x348.length c350, .slice A355 x354.length c356, .int .i64 x134, .int .i64 x135, .int .i64 x136] 56 (0, 0))]] L390 HS406) (fun hl_ => Bool.noConfusion (show true = false from hl_)) (fun hl_ => Bool.noConfusion (show true = false from hl_)) (fun hl_ => Bool.noConfusion (show true = false from hl_))) ?_
    have HS408 := HS406.u2
    refine takeGE 7 (by kernel_rfl) rfl (by kernel_rfl) (does_store (n := 1) (vs := [.slice A402 (x342 ++ ([vt386] : List Int)).length c403]) (cs' := #[.int .i64 vt17, .int .i64 vt24, .slice A402 (x342 ++ ([vt386] : List Int)).length c403, .slice A349 x348.length c350, .slice A355 x354.length c356, .int .i64 x134, .int .i64 x135, .int .i64 x136]) rfl (by kernel_rfl) (by kernel_rfl : _ = Value.pointer (some ⟨b52, 2, none⟩)) (by kernel_rfl : _ = Value.slice A402 (x342 ++ ([vt386] : List Int)).length c403) rfl rfl (by intro u_ hu_; simp only [List.mem_cons, List.not_mem_nil, or_false] at hu_; subst hu_; rfl) HS408 (Nat.le_of_ble_eq_true rfl) (by kernel_rfl) ?_)
    intro W409 HS410
    refine ⟨(Sg.g3 (Sx.of [[(b52, .cells #[.int .i64 vt17, .int .i64 vt24, .slice A402 (x342 ++ ([vt386] : List Int)).length c403, .slice A349 x348.length c350, .slice A355 x354.length c356, .int .i64 x134, .int .i64 x135, .int .i64 x136] 56 (0, 0))], s404, [(b1, .cells #[.slice A4 s3.L.length c5, .int .i64 vt387] 37 (0, 0))]] L390 HS410) (fun hl_ => Bool.noConfusion (show true = false from hl_)) (fun hl_ => Bool.noConfusion (show true = false from hl_)) (fun hl_ => Bool.noConfusion (show true = false from hl_))), ?_⟩
    refine doneG (by kernel_rfl) ?_ _
    refine hK376 _ _ ?_
    refine wp_seq_k (fun K411 hK412 => ?_)
    have HS413 := HS410.u5
    have HS414 := HS413.u4
    have HS415 := HS414.u3
    have HS416 := HS415.u5
    have HS417 := HS416.u5
    have HS418 := HS417.u5
    refine heldG (S := Sg t f389 (s404 :: s357 :: [(b10, .cells #[.int .i64 0, .int .i64 0, .slice none 0 0, .slice none 0 0, .slice none 0 0, .int .i64 0, .int .i64 0, .int .i64 0] 56 (0, 0))] :: H) [(8, [(b52, .cells #[.int .i64 vt17, .int .i64 vt24, .slice A402 (x342 ++ ([vt386] : List Int)).length c403, .slice A349 x348.length c350, .slice A355 x354.length c356, .int .i64 x134, .int .i64 x135, .int .i64 x136] 56 (0, 0))]), (6, [(b1, .cells #[.slice A4 s3.L.length c5, .int .i64 vt387] 37 (0, 0))]), (8, s351)]) (n := 11) (by kernel_rfl) rfl HS418 ?_
    intro W419 HS420
    refine takeG [0] (n := 11) (fuel := 10) (l' := #[true, false, false, false, false, false, false, false, false, false, false]) (a' := ⟨#[pV b1 0, iV most7, uV, uV, pV b10 0, pV b52 0, iV vt145, (j339 0), pV b1 0, iV most7, iV vt17, pV b1 0, iV most7, iV vt24, pV b1 0, iV vt31, pV b1 0, iV vt38, pV b1 0, iV vt45, .agg #[iV vt17, iV vt24, .slice none 0 0, .slice none 0 0, .slice none 0 0, iV vt31, iV vt38, iV vt45], pV b1 0, iV vt63, .bool (vt63 == 0), .bool (vt63 == 0), (j132 0), (j132 1), (j132 2), (j132 3), (j132 4), (j132 5), (j132 6), (j132 7), (j132 8), (j132 9), (j132 10), pV b1 0, iV vt145, pV b52 0, iV vt17, pV b52 1, iV vt24, iV (w64 (vt17 * vt24)), iV x340, tV, pV b52 2, .slice A343 x342.length c344, pV b1 0, iV vt386, .slice (some ⟨b393, 0, none⟩) ([vt386] : List Int).length 1, .slice A402 (x342 ++ ([vt386] : List Int)).length c403, pV b52 2, pV b52 3, (j339 10), (j339 11), (j339 12), (j339 13), (j339 14), (j339 15), (j339 16), (j339 17), (j339 18), (j339 19), (j339 20), (j339 21), (j339 22), (j339 23), (j339 24), (j339 25), (j339 26), (j339 27), (j339 28), (j339 29), (j339 30), (j339 31), (j339 32), (j339 33), (j339 34), (j339 35), uV], []⟩) rfl (by kernel_rfl) (by kernel_rfl) (by kernel_rfl) (fun ch_ a_ w_ q_ => (fun ch_ a_ w_ q_ => hnp ch_ a_ w_ (hp161 ch_ a_ w_ q_)) ch_ a_ w_ (hp373 ch_ a_ w_ q_)) (Sg.g3 (Sx.of [[(b52, .cells #[.int .i64 vt17, .int .i64 vt24, .slice A402 (x342 ++ ([vt386] : List Int)).length c403, .slice A349 x348.length c350, .slice A355 x354.length c356, .int .i64 x134, .int .i64 x135, .int .i64 x136] 56 (0, 0))], [(b1, .cells #[.slice A4 s3.L.length c5, .int .i64 vt387] 37 (0, 0))], s351] (FM.le.refl _) HS420) (fun _ => St.only [] HS420 (FM.le.refl _)) (fun _ => St.only [[(b52, .cells #[.int .i64 vt17, .int .i64 vt24, .slice A402 (x342 ++ ([vt386] : List Int)).length c403, .slice A349 x348.length c350, .slice A355 x354.length c356, .int .i64 x134, .int .i64 x135, .int .i64 x136] 56 (0, 0))]] HS420 (FM.le.refl _)) (fun _ => St.only [[(b52, .cells #[.int .i64 vt17, .int .i64 vt24, .slice A402 (x342 ++ ([vt386] : List Int)).length c403, .slice A349 x348.length c350, .slice A355 x354.length c356, .int .i64 x134, .int .i64 x135, .int .i64 x136] 56 (0, 0))], [(b1, .cells #[.slice A4 s3.L.length c5, .int .i64 vt387] 37 (0, 0))]] HS420 (FM.le.refl _))) ?_
    refine takeGQ 1 [8] rfl (by kernel_rfl) (by kernel_rfl) (by kernel_rfl) (by kernel_rfl) (by kernel_rfl) (by kernel_rfl) (fun ch_ a_ w_ q_ => (fun ch_ a_ w_ q_ => hnp ch_ a_ w_ (hp161 ch_ a_ w_ q_)) ch_ a_ w_ (hp373 ch_ a_ w_ q_)) (Sg.g3 (Sx.of [[(b52, .cells #[.int .i64 vt17, .int .i64 vt24, .slice A402 (x342 ++ ([vt386] : List Int)).length c403, .slice A349 x348.length c350, .slice A355 x354.length c356, .int .i64 x134, .int .i64 x135, .int .i64 x136] 56 (0, 0))], [(b1, .cells #[.slice A4 s3.L.length c5, .int .i64 vt387] 37 (0, 0))], s351] (FM.le.refl _) HS420) (fun _ => St.only [] HS420 (FM.le.refl _)) (fun _ => St.only [[(b52, .cells #[.int .i64 vt17, .int .i64 vt24, .slice A402 (x342 ++ ([vt386] : List Int)).length c403, .slice A349 x348.length c350, .slice A355 x354.length c356, .int .i64 x134, .int .i64 x135, .int .i64 x136] 56 (0, 0))]] HS420 (FM.le.refl _)) (fun _ => St.only [[(b52, .cells #[.int .i64 vt17, .int .i64 vt24, .slice A402 (x342 ++ ([vt386] : List Int)).length c403, .slice A349 x348.length c350, .slice A355 x354.length c356, .int .i64 x134, .int .i64 x135, .int .i64 x136] 56 (0, 0))], [(b1, .cells #[.slice A4 s3.L.length c5, .int .i64 vt387] 37 (0, 0))]] HS420 (FM.le.refl _))) (fun w_ hw_ => by obtain ⟨g_, hl_, hS_⟩ := hw_.seg (j := 8) (s := [(b52, .cells #[.int .i64 vt17, .int .i64 vt24, .slice A402 (x342 ++ ([vt386] : List Int)).length c403, .slice A349 x348.length c350, .slice A355 x354.length c356, .int .i64 x134, .int .i64 x135, .int .i64 x136] 56 (0, 0))]) (by simp) (by simp); exact run_load rfl Tryd.underlying53 rfl (by kernel_rfl : _ = Value.pointer (some ⟨b52, 3, none⟩)) (hS_.cell 3)) ?_
    refine takeG [2, 3, 4, 5] (n := 9) (fuel := 5) (l' := #[true, true, true, true, true, true, false, false, false, false, false]) (a' := ⟨#[pV b1 0, iV most7, uV, uV, pV b10 0, pV b52 0, iV vt145, (j339 0), pV b1 0, iV most7, iV vt17, pV b1 0, iV most7, iV vt24, pV b1 0, iV vt31, pV b1 0, iV vt38, pV b1 0, iV vt45, .agg #[iV vt17, iV vt24, .slice none 0 0, .slice none 0 0, .slice none 0 0, iV vt31, iV vt38, iV vt45], pV b1 0, iV vt63, .bool (vt63 == 0), .bool (vt63 == 0), (j132 0), (j132 1), (j132 2), (j132 3), (j132 4), (j132 5), (j132 6), (j132 7), (j132 8), (j132 9), (j132 10), pV b1 0, iV vt145, pV b52 0, iV vt17, pV b52 1, iV vt24, iV (w64 (vt17 * vt24)), iV x340, tV, pV b52 2, .slice A343 x342.length c344, pV b1 0, iV vt386, .slice (some ⟨b393, 0, none⟩) ([vt386] : List Int).length 1, .slice A402 (x342 ++ ([vt386] : List Int)).length c403, pV b52 2, pV b52 3, .slice A349 x348.length c350, pV b1 0, iV vt145, iV (w64 (vt145 * 16777216)), iV (w64 ((w64 (vt145 * 16777216)) + 1)), (j339 15), (j339 16), (j339 17), (j339 18), (j339 19), (j339 20), (j339 21), (j339 22), (j339 23), (j339 24), (j339 25), (j339 26), (j339 27), (j339 28), (j339 29), (j339 30), (j339 31), (j339 32), (j339 33), (j339 34), (j339 35), uV], []⟩) rfl (by kernel_rfl) (by kernel_rfl) (by kernel_rfl) (fun ch_ a_ w_ q_ => (fun ch_ a_ w_ q_ => hnp ch_ a_ w_ (hp161 ch_ a_ w_ q_)) ch_ a_ w_ (hp373 ch_ a_ w_ q_)) (Sg.g3 (Sx.of [[(b52, .cells #[.int .i64 vt17, .int .i64 vt24, .slice A402 (x342 ++ ([vt386] : List Int)).length c403, .slice A349 x348.length c350, .slice A355 x354.length c356, .int .i64 x134, .int .i64 x135, .int .i64 x136] 56 (0, 0))], [(b1, .cells #[.slice A4 s3.L.length c5, .int .i64 vt387] 37 (0, 0))], s351] (FM.le.refl _) HS420) (fun _ => St.only [] HS420 (FM.le.refl _)) (fun _ => St.only [[(b52, .cells #[.int .i64 vt17, .int .i64 vt24, .slice A402 (x342 ++ ([vt386] : List Int)).length c403, .slice A349 x348.length c350, .slice A355 x354.length c356, .int .i64 x134, .int .i64 x135, .int .i64 x136] 56 (0, 0))]] HS420 (FM.le.refl _)) (fun _ => St.only [[(b52, .cells #[.int .i64 vt17, .int .i64 vt24, .slice A402 (x342 ++ ([vt386] : List Int)).length c403, .slice A349 x348.length c350, .slice A355 x354.length c356, .int .i64 x134, .int .i64 x135, .int .i64 x136] 56 (0, 0))], [(b1, .cells #[.slice A4 s3.L.length c5, .int .i64 vt387] 37 (0, 0))]] HS420 (FM.le.refl _))) ?_
    have HS421 := HS420.u1
    have hq_ := bind_some h; clear h; obtain ⟨⟨vt422, vt423⟩, hc424, h⟩ := hq_
    refine takeGE 6 (by kernel_rfl) rfl (by kernel_rfl) (does_call (f := 23) (args := #[.pointer (some ⟨b1, 0, none⟩), .int .i64 (w64 ((w64 (vt145 * 16777216)) + 1))]) (by kernel_rfl) (spymake_Stream_Next.calls k b1 A4 c5 (⟨s3.L, vt387⟩ : S_Stream) (w64 ((w64 (vt145 * 16777216)) + 1)) HS421 (HR6.mono (L21.trans (L28.trans (L35.trans (L42.trans (L49.trans (L67.trans (L129.trans (L149.trans (L336.trans L390)))))))))) vt422 vt423 hc424) ?_)
    rintro _ W427 ⟨f425, rfl, L426, HS428⟩
    refine ⟨_, rfl, ?_⟩
    refine ⟨(Sg.g3 (Sx.of [[(b1, .cells #[.slice A4 s3.L.length c5, .int .i64 vt423] 37 (0, 0))], [(b52, .cells #[.int .i64 vt17, .int .i64 vt24, .slice A402 (x342 ++ ([vt386] : List Int)).length c403, .slice A349 x348.length c350, .slice A355 x354.length c356, .int .i64 x134, .int .i64 x135, .int .i64 x136] 56 (0, 0))], s351] L426 HS428) (fun _ => St.only [[(b1, .cells #[.slice A4 s3.L.length c5, .int .i64 vt423] 37 (0, 0))]] HS428 L426) (fun hl_ => Bool.noConfusion (show true = false from hl_)) (fun _ => St.only [[(b1, .cells #[.slice A4 s3.L.length c5, .int .i64 vt423] 37 (0, 0))], [(b52, .cells #[.int .i64 vt17, .int .i64 vt24, .slice A402 (x342 ++ ([vt386] : List Int)).length c403, .slice A349 x348.length c350, .slice A355 x354.length c356, .int .i64 x134, .int .i64 x135, .int .i64 x136] 56 (0, 0))]] HS428 L426)), ?_⟩
    refine takeGE 7 (by kernel_rfl) rfl (by kernel_rfl) (does_lit (e := (tInt .i64)) (E := 88) (vs := #[(0, Value.int .i64 vt422)]) (cs := #[.int .i64 vt422]) (xs := ([vt422] : List Int)) rfl Tryd.underlying53 (by kernel_rfl) (by kernel_rfl) ⟨[.int .i64 vt422], _, rfl, rfl, rfl⟩ rfl HS428 ?_ (by decide))
    intro b429 W430 s431 HS432 _ HO433
    refine ⟨(Sg.g3 (Sx.of [s431, [(b1, .cells #[.slice A4 s3.L.length c5, .int .i64 vt423] 37 (0, 0))], [(b52, .cells #[.int .i64 vt17, .int .i64 vt24, .slice A402 (x342 ++ ([vt386] : List Int)).length c403, .slice A349 x348.length c350, .slice A355 x354.length c356, .int .i64 x134, .int .i64 x135, .int .i64 x136] 56 (0, 0))], s351] L426 HS432) (fun _ => St.only [s431, [(b1, .cells #[.slice A4 s3.L.length c5, .int .i64 vt423] 37 (0, 0))]] HS432 L426) (fun hl_ => Bool.noConfusion (show true = false from hl_)) (fun _ => St.only [s431, [(b1, .cells #[.slice A4 s3.L.length c5, .int .i64 vt423] 37 (0, 0))], [(b52, .cells #[.int .i64 vt17, .int .i64 vt24, .slice A402 (x342 ++ ([vt386] : List Int)).length c403, .slice A349 x348.length c350, .slice A355 x354.length c356, .int .i64 x134, .int .i64 x135, .int .i64 x136] 56 (0, 0))]] HS432 L426)), ?_⟩
    have hq_ := guard_some h; clear h; obtain ⟨c435, h⟩ := hq_
    have c435 : (x348.length + 1) * 8 ≤ 140737488355328 := c435
    have HS436 := HS432.u3
    have HS437 := HS436.u1
    refine takeGE 8 (by kernel_rfl) rfl (by kernel_rfl) (does_append1 (e := (tInt .i64)) (E := 88) (xs := x348) (ys := ([vt422] : List Int)) rfl (by kernel_rfl : _ = Value.slice A349 x348.length c350) (by kernel_rfl : _ = Value.slice (some ⟨b429, 0, none⟩) ([vt422] : List Int).length 1) Tryd.underlying53 inf88 (HO352.mono (L390.trans L426)) HO433 HS437 c435 (lim63 c435 (by decide)) ?_)
    intro A438 c439 s440 W441 HS442 HO443
    refine ⟨(Sg.g3 (Sx.of [s440, [(b1, .cells #[.slice A4 s3.L.length c5, .int .i64 vt423] 37 (0, 0))], [(b52, .cells #[.int .i64 vt17, .int .i64 vt24, .slice A402 (x342 ++ ([vt386] : List Int)).length c403, .slice A349 x348.length c350, .slice A355 x354.length c356, .int .i64 x134, .int .i64 x135, .int .i64 x136] 56 (0, 0))]] L426 HS442) (fun hl_ => Bool.noConfusion (show true = false from hl_)) (fun hl_ => Bool.noConfusion (show true = false from hl_)) (fun hl_ => Bool.noConfusion (show true = false from hl_))), ?_⟩
    refine takeG [9] (n := 2) (fuel := 1) (l' := #[true, true, true, true, true, true, true, true, true, true, false]) (a' := ⟨#[pV b1 0, iV most7, uV, uV, pV b10 0, pV b52 0, iV vt145, (j339 0), pV b1 0, iV most7, iV vt17, pV b1 0, iV most7, iV vt24, pV b1 0, iV vt31, pV b1 0, iV vt38, pV b1 0, iV vt45, .agg #[iV vt17, iV vt24, .slice none 0 0, .slice none 0 0, .slice none 0 0, iV vt31, iV vt38, iV vt45], pV b1 0, iV vt63, .bool (vt63 == 0), .bool (vt63 == 0), (j132 0), (j132 1), (j132 2), (j132 3), (j132 4), (j132 5), (j132 6), (j132 7), (j132 8), (j132 9), (j132 10), pV b1 0, iV vt145, pV b52 0, iV vt17, pV b52 1, iV vt24, iV (w64 (vt17 * vt24)), iV x340, tV, pV b52 2, .slice A343 x342.length c344, pV b1 0, iV vt386, .slice (some ⟨b393, 0, none⟩) ([vt386] : List Int).length 1, .slice A402 (x342 ++ ([vt386] : List Int)).length c403, pV b52 2, pV b52 3, .slice A349 x348.length c350, pV b1 0, iV vt145, iV (w64 (vt145 * 16777216)), iV (w64 ((w64 (vt145 * 16777216)) + 1)), iV vt422, .slice (some ⟨b429, 0, none⟩) ([vt422] : List Int).length 1, .slice A438 (x348 ++ ([vt422] : List Int)).length c439, pV b52 3, (j339 19), (j339 20), (j339 21), (j339 22), (j339 23), (j339 24), (j339 25), (j339 26), (j339 27), (j339 28), (j339 29), (j339 30), (j339 31), (j339 32), (j339 33), (j339 34), (j339 35), uV], []⟩) rfl (by kernel_rfl) (by kernel_rfl) (by kernel_rfl) (fun ch_ a_ w_ q_ => (fun ch_ a_ w_ q_ => hnp ch_ a_ w_ (hp161 ch_ a_ w_ q_)) ch_ a_ w_ (hp373 ch_ a_ w_ q_)) (Sg.g3 (Sx.of [s440, [(b1, .cells #[.slice A4 s3.L.length c5, .int .i64 vt423] 37 (0, 0))], [(b52, .cells #[.int .i64 vt17, .int .i64 vt24, .slice A402 (x342 ++ ([vt386] : List Int)).length c403, .slice A349 x348.length c350, .slice A355 x354.length c356, .int .i64 x134, .int .i64 x135, .int .i64 x136] 56 (0, 0))]] L426 HS442) (fun hl_ => Bool.noConfusion (show true = false from hl_)) (fun hl_ => Bool.noConfusion (show true = false from hl_)) (fun hl_ => Bool.noConfusion (show true = false from hl_))) ?_
    have HS444 := HS442.u2
    refine takeGE 10 (by kernel_rfl) rfl (by kernel_rfl) (does_store (n := 1) (vs := [.slice A438 (x348 ++ ([vt422] : List Int)).length c439]) (cs' := #[.int .i64 vt17, .int .i64 vt24, .slice A402 (x342 ++ ([vt386] : List Int)).length c403, .slice A438 (x348 ++ ([vt422] : List Int)).length c439, .slice A355 x354.length c356, .int .i64 x134, .int .i64 x135, .int .i64 x136]) rfl (by kernel_rfl) (by kernel_rfl : _ = Value.pointer (some ⟨b52, 3, none⟩)) (by kernel_rfl : _ = Value.slice A438 (x348 ++ ([vt422] : List Int)).length c439) rfl rfl (by intro u_ hu_; simp only [List.mem_cons, List.not_mem_nil, or_false] at hu_; subst hu_; rfl) HS444 (Nat.le_of_ble_eq_true rfl) (by kernel_rfl) ?_)
    intro W445 HS446
    refine ⟨(Sg.g3 (Sx.of [[(b52, .cells #[.int .i64 vt17, .int .i64 vt24, .slice A402 (x342 ++ ([vt386] : List Int)).length c403, .slice A438 (x348 ++ ([vt422] : List Int)).length c439, .slice A355 x354.length c356, .int .i64 x134, .int .i64 x135, .int .i64 x136] 56 (0, 0))], s440, [(b1, .cells #[.slice A4 s3.L.length c5, .int .i64 vt423] 37 (0, 0))]] L426 HS446) (fun hl_ => Bool.noConfusion (show true = false from hl_)) (fun hl_ => Bool.noConfusion (show true = false from hl_)) (fun hl_ => Bool.noConfusion (show true = false from hl_))), ?_⟩
    refine doneG (by kernel_rfl) ?_ _
    refine hK412 _ _ ?_
    refine wp_seq_k (fun K447 hK448 => ?_)
    refine wp_region_lit ?_
    have HS449 := HS446.u2
    have hq_ := bind_some h; clear h; obtain ⟨⟨vt450, vt451⟩, hc452, h⟩ := hq_
    refine seqL1 (by kernel_rfl) ?_
    refine seqK rfl (does_call (f := 24) (args := #[.pointer (some ⟨b1, 0, none⟩), .int .i64 2048, .int .i64 4096]) (by kernel_rfl) (spymake_Stream_Range.calls k b1 A4 c5 (⟨s3.L, vt423⟩ : S_Stream) 2048 4096 HS449 (HR6.mono (L21.trans (L28.trans (L35.trans (L42.trans (L49.trans (L67.trans (L129.trans (L149.trans (L336.trans (L390.trans L426))))))))))) vt450 vt451 hc452) ?_)
    rintro _ W455 ⟨f453, rfl, L454, HS456⟩
    refine ⟨_, rfl, ?_⟩
    refine seqS1 (a' := ⟨#[pV b1 0, iV most7, uV, uV, pV b10 0, pV b52 0, iV vt145, iV vt450, pV b1 0, iV most7, iV vt17, pV b1 0, iV most7, iV vt24, pV b1 0, iV vt31, pV b1 0, iV vt38, pV b1 0, iV vt45, .agg #[iV vt17, iV vt24, .slice none 0 0, .slice none 0 0, .slice none 0 0, iV vt31, iV vt38, iV vt45], pV b1 0, iV vt63, .bool (vt63 == 0), .bool (vt63 == 0), (j132 0), (j132 1), (j132 2), (j132 3), (j132 4), (j132 5), (j132 6), (j132 7), (j132 8), (j132 9), (j132 10), pV b1 0, iV vt145, pV b52 0, iV vt17, pV b52 1, iV vt24, iV (w64 (vt17 * vt24)), iV x340, tV, pV b52 2, .slice A343 x342.length c344, pV b1 0, iV vt386, .slice (some ⟨b393, 0, none⟩) ([vt386] : List Int).length 1, .slice A402 (x342 ++ ([vt386] : List Int)).length c403, pV b52 2, pV b52 3, .slice A349 x348.length c350, pV b1 0, iV vt145, iV (w64 (vt145 * 16777216)), iV (w64 ((w64 (vt145 * 16777216)) + 1)), iV vt422, .slice (some ⟨b429, 0, none⟩) ([vt422] : List Int).length 1, .slice A438 (x348 ++ ([vt422] : List Int)).length c439, pV b52 3, pV b1 0, iV vt450, (j339 21), (j339 22), (j339 23), (j339 24), (j339 25), (j339 26), (j339 27), (j339 28), (j339 29), (j339 30), (j339 31), (j339 32), (j339 33), (j339 34), (j339 35), uV], []⟩) (by kernel_rfl) ?_
    refine wpList_nil ?_
    refine hK448 _ _ ?_
    refine wp_seq_k (fun K457 hK458 => ?_)
    refine wp_seq_k (fun K459 hK460 => ?_)
    refine wp_region_lit ?_
    have hq_ := bind_some h; clear h; obtain ⟨⟨vt461, vt462⟩, hc463, h⟩ := hq_
    refine seqL1 (by kernel_rfl) ?_
    refine seqK rfl (does_call (f := 23) (args := #[.pointer (some ⟨b1, 0, none⟩), .int .i64 12]) (by kernel_rfl) (spymake_Stream_Next.calls k b1 A4 c5 (⟨s3.L, vt451⟩ : S_Stream) 12 HS456 (HR6.mono (L21.trans (L28.trans (L35.trans (L42.trans (L49.trans (L67.trans (L129.trans (L149.trans (L336.trans (L390.trans (L426.trans L454)))))))))))) vt461 vt462 hc463) ?_)
    rintro _ W466 ⟨f464, rfl, L465, HS467⟩
    refine ⟨_, rfl, ?_⟩
    refine seqS1 (a' := ⟨#[pV b1 0, iV most7, uV, uV, pV b10 0, pV b52 0, iV vt145, iV vt450, pV b1 0, iV most7, iV vt17, pV b1 0, iV most7, iV vt24, pV b1 0, iV vt31, pV b1 0, iV vt38, pV b1 0, iV vt45, .agg #[iV vt17, iV vt24, .slice none 0 0, .slice none 0 0, .slice none 0 0, iV vt31, iV vt38, iV vt45], pV b1 0, iV vt63, .bool (vt63 == 0), .bool (vt63 == 0), (j132 0), (j132 1), (j132 2), (j132 3), (j132 4), (j132 5), (j132 6), (j132 7), (j132 8), (j132 9), (j132 10), pV b1 0, iV vt145, pV b52 0, iV vt17, pV b52 1, iV vt24, iV (w64 (vt17 * vt24)), iV x340, tV, pV b52 2, .slice A343 x342.length c344, pV b1 0, iV vt386, .slice (some ⟨b393, 0, none⟩) ([vt386] : List Int).length 1, .slice A402 (x342 ++ ([vt386] : List Int)).length c403, pV b52 2, pV b52 3, .slice A349 x348.length c350, pV b1 0, iV vt145, iV (w64 (vt145 * 16777216)), iV (w64 ((w64 (vt145 * 16777216)) + 1)), iV vt422, .slice (some ⟨b429, 0, none⟩) ([vt422] : List Int).length 1, .slice A438 (x348 ++ ([vt422] : List Int)).length c439, pV b52 3, pV b1 0, iV vt450, pV b1 0, iV vt461, .bool (vt461 == 0), (j339 24), (j339 25), (j339 26), (j339 27), (j339 28), (j339 29), (j339 30), (j339 31), (j339 32), (j339 33), (j339 34), (j339 35), uV], []⟩) (by kernel_rfl) ?_
    refine wpList_nil ?_
    refine hK460 _ _ ?_
    have hq_ := ite_some h; clear h; rcases hq_ with ⟨c469, h⟩ | ⟨c469, h⟩
    · have c469 : vt461 = 0 := c469
      refine wpRwI 66 (x := (vt461 == 0)) (v := true) (by kernel_rfl) (beq_iff_eq.mpr c469) ?_
      refine condT (by kernel_rfl) ?_
      refine wp_region_lit ?_
      have hq_ := bind_some h; clear h; obtain ⟨⟨vt470, vt471⟩, hc472, h⟩ := hq_
      refine seqL1 (by kernel_rfl) ?_
      refine seqK rfl (does_call (f := 23) (args := #[.pointer (some ⟨b1, 0, none⟩), .int .i64 512]) (by kernel_rfl) (spymake_Stream_Next.calls k b1 A4 c5 (⟨s3.L, vt462⟩ : S_Stream) 512 HS467 (HR6.mono (L21.trans (L28.trans (L35.trans (L42.trans (L49.trans (L67.trans (L129.trans (L149.trans (L336.trans (L390.trans (L426.trans (L454.trans L465))))))))))))) vt470 vt471 hc472) ?_)
      rintro _ W475 ⟨f473, rfl, L474, HS476⟩
      refine ⟨_, rfl, ?_⟩
      have hq_ := bind_some h; clear h; obtain ⟨⟨vt477, vt478⟩, hc479, h⟩ := hq_
      refine seqL1 (by kernel_rfl) ?_
      refine seqK rfl (does_call (f := 23) (args := #[.pointer (some ⟨b1, 0, none⟩), .int .i64 2]) (by kernel_rfl) (spymake_Stream_Next.calls k b1 A4 c5 (⟨s3.L, vt471⟩ : S_Stream) 2 HS476 (HR6.mono (L21.trans (L28.trans (L35.trans (L42.trans (L49.trans (L67.trans (L129.trans (L149.trans (L336.trans (L390.trans (L426.trans (L454.trans (L465.trans L474)))))))))))))) vt477 vt478 hc479) ?_)
      rintro _ W482 ⟨f480, rfl, L481, HS483⟩
      refine ⟨_, rfl, ?_⟩
      refine seqS2 (a' := ⟨#[pV b1 0, iV most7, uV, uV, pV b10 0, pV b52 0, iV vt145, iV (w64 (vt470 * vt477)), pV b1 0, iV most7, iV vt17, pV b1 0, iV most7, iV vt24, pV b1 0, iV vt31, pV b1 0, iV vt38, pV b1 0, iV vt45, .agg #[iV vt17, iV vt24, .slice none 0 0, .slice none 0 0, .slice none 0 0, iV vt31, iV vt38, iV vt45], pV b1 0, iV vt63, .bool (vt63 == 0), .bool (vt63 == 0), (j132 0), (j132 1), (j132 2), (j132 3), (j132 4), (j132 5), (j132 6), (j132 7), (j132 8), (j132 9), (j132 10), pV b1 0, iV vt145, pV b52 0, iV vt17, pV b52 1, iV vt24, iV (w64 (vt17 * vt24)), iV x340, tV, pV b52 2, .slice A343 x342.length c344, pV b1 0, iV vt386, .slice (some ⟨b393, 0, none⟩) ([vt386] : List Int).length 1, .slice A402 (x342 ++ ([vt386] : List Int)).length c403, pV b52 2, pV b52 3, .slice A349 x348.length c350, pV b1 0, iV vt145, iV (w64 (vt145 * 16777216)), iV (w64 ((w64 (vt145 * 16777216)) + 1)), iV vt422, .slice (some ⟨b429, 0, none⟩) ([vt422] : List Int).length 1, .slice A438 (x348 ++ ([vt422] : List Int)).length c439, pV b52 3, pV b1 0, iV vt450, pV b1 0, iV vt461, tV, pV b1 0, iV vt470, pV b1 0, iV vt477, iV (w64 (vt470 * vt477)), (j339 29), (j339 30), (j339 31), (j339 32), (j339 33), (j339 34), (j339 35), uV], []⟩) (by kernel_rfl) ?_
      refine wpList_nil ?_
      refine hK458 _ _ ?_
      refine wp_region_lit ?_
      refine seqL1 (by kernel_rfl) ?_
      refine seqK rfl (does_run (run_load rfl Tryd.underlying27 rfl (by kernel_rfl : _ = Value.pointer (some ⟨b52, 4, none⟩)) (HS483.u1.cell 4)) ?_)
      refine seqL1 (by kernel_rfl) ?_
      refine seqK rfl (does_lit (e := (tInt .i64)) (E := 3) (vs := #[(0, Value.int .i64 (w64 (vt470 * vt477)))]) (cs := #[.int .i64 (w64 (vt470 * vt477))]) (xs := ([w64 (vt470 * vt477)] : List Int)) rfl Tryd.underlying27 (by kernel_rfl) (by kernel_rfl) ⟨[.int .i64 (w64 (vt470 * vt477))], _, rfl, rfl, rfl⟩ rfl HS483 ?_ (by decide))
      intro b484 W485 s486 HS487 _ HO488
      have hq_ := guard_some h; clear h; obtain ⟨c490, h⟩ := hq_
      have c490 : (x354.length + 1) * 8 ≤ 140737488355328 := c490
      have HS491 := HS487.u5
      have HS492 := HS491.u1
      refine seqK rfl (does_append1 (e := (tInt .i64)) (E := 3) (xs := x354) (ys := ([w64 (vt470 * vt477)] : List Int)) rfl (by kernel_rfl : _ = Value.slice A355 x354.length c356) (by kernel_rfl : _ = Value.slice (some ⟨b484, 0, none⟩) ([w64 (vt470 * vt477)] : List Int).length 1) Tryd.underlying27 inf3 (HO358.mono (L390.trans (L426.trans (L454.trans (L465.trans (L474.trans L481)))))) HO488 HS492 c490 (lim63 c490 (by decide)) ?_)
      intro A493 c494 s495 W496 HS497 HO498
      have HS499 := HS497.u2
      refine seqL1 (by kernel_rfl) ?_
      refine seqK rfl (does_store (n := 1) (vs := [.slice A493 (x354 ++ ([w64 (vt470 * vt477)] : List Int)).length c494]) (cs' := #[.int .i64 vt17, .int .i64 vt24, .slice A402 (x342 ++ ([vt386] : List Int)).length c403, .slice A438 (x348 ++ ([vt422] : List Int)).length c439, .slice A493 (x354 ++ ([w64 (vt470 * vt477)] : List Int)).length c494, .int .i64 x134, .int .i64 x135, .int .i64 x136]) rfl (by kernel_rfl) (by kernel_rfl : _ = Value.pointer (some ⟨b52, 4, none⟩)) (by kernel_rfl : _ = Value.slice A493 (x354 ++ ([w64 (vt470 * vt477)] : List Int)).length c494) rfl rfl (by intro u_ hu_; simp only [List.mem_cons, List.not_mem_nil, or_false] at hu_; subst hu_; rfl) HS499 (Nat.le_of_ble_eq_true rfl) (by kernel_rfl) ?_)
      intro W500 HS501
      refine wpList_nil ?_
      refine hn370 _ _ ?_
      refine hK367 _ _ ?_
      refine wp_region_lit ?_
      refine seqS2 (a' := ⟨#[pV b1 0, iV most7, uV, uV, pV b10 0, pV b52 0, iV vt145, iV (w64 (vt470 * vt477)), pV b1 0, iV most7, iV vt17, pV b1 0, iV most7, iV vt24, pV b1 0, iV vt31, pV b1 0, iV vt38, pV b1 0, iV vt45, .agg #[iV vt17, iV vt24, .slice none 0 0, .slice none 0 0, .slice none 0 0, iV vt31, iV vt38, iV vt45], pV b1 0, iV vt63, .bool (vt63 == 0), .bool (vt63 == 0), (j132 0), (j132 1), (j132 2), (j132 3), (j132 4), (j132 5), (j132 6), (j132 7), (j132 8), (j132 9), (j132 10), pV b1 0, iV vt145, pV b52 0, iV vt17, pV b52 1, iV vt24, iV (w64 (vt17 * vt24)), iV (w64 (x340 + 1)), tV, pV b52 2, .slice A343 x342.length c344, pV b1 0, iV vt386, .slice (some ⟨b393, 0, none⟩) ([vt386] : List Int).length 1, .slice A402 (x342 ++ ([vt386] : List Int)).length c403, pV b52 2, pV b52 3, .slice A349 x348.length c350, pV b1 0, iV vt145, iV (w64 (vt145 * 16777216)), iV (w64 ((w64 (vt145 * 16777216)) + 1)), iV vt422, .slice (some ⟨b429, 0, none⟩) ([vt422] : List Int).length 1, .slice A438 (x348 ++ ([vt422] : List Int)).length c439, pV b52 3, pV b1 0, iV vt450, pV b1 0, iV vt461, tV, pV b1 0, iV vt470, pV b1 0, iV vt477, iV (w64 (vt470 * vt477)), pV b52 4, .slice A355 x354.length c356, iV (w64 (vt470 * vt477)), .slice (some ⟨b484, 0, none⟩) ([w64 (vt470 * vt477)] : List Int).length 1, .slice A493 (x354 ++ ([w64 (vt470 * vt477)] : List Int)).length c494, pV b52 4, iV (w64 (x340 + 1)), uV], []⟩) (by kernel_rfl) ?_
      refine wpList_nil ?_
      refine hK333 n334 _ _ (Nat.lt_succ_self _) ?_
      have HS553 := HS501.u5
      have HS554 := HS553.u1
      have HS555 := HS554.u3
      have HS556 := HS555.u5
      have HS557 := HS556.u5
      have HS558 := HS557.u5
      exact ⟨f480, A402, c403, s404, A438, c439, s440, A493, c494, s495, (w64 (x340 + 1)), vt478, (x342 ++ ([vt386] : List Int)), (x348 ++ ([vt422] : List Int)), (x354 ++ ([w64 (vt470 * vt477)] : List Int)), (fun i_ => [Value.int .i64 (w64 (vt470 * vt477)), Value.bool true, Value.pointer (some ⟨b52, 2, none⟩), Value.slice A343 x342.length c344, Value.pointer (some ⟨b1, 0, none⟩), Value.int .i64 vt386, Value.slice (some ⟨b393, 0, none⟩) ([vt386] : List Int).length 1, Value.slice A402 (x342 ++ ([vt386] : List Int)).length c403, Value.pointer (some ⟨b52, 2, none⟩), Value.pointer (some ⟨b52, 3, none⟩), Value.slice A349 x348.length c350, Value.pointer (some ⟨b1, 0, none⟩), Value.int .i64 vt145, Value.int .i64 (w64 (vt145 * 16777216)), Value.int .i64 (w64 ((w64 (vt145 * 16777216)) + 1)), Value.int .i64 vt422, Value.slice (some ⟨b429, 0, none⟩) ([vt422] : List Int).length 1, Value.slice A438 (x348 ++ ([vt422] : List Int)).length c439, Value.pointer (some ⟨b52, 3, none⟩), Value.pointer (some ⟨b1, 0, none⟩), Value.int .i64 vt450, Value.pointer (some ⟨b1, 0, none⟩), Value.int .i64 vt461, Value.bool true, Value.pointer (some ⟨b1, 0, none⟩), Value.int .i64 vt470, Value.pointer (some ⟨b1, 0, none⟩), Value.int .i64 vt477, Value.int .i64 (w64 (vt470 * vt477)), Value.pointer (some ⟨b52, 4, none⟩), Value.slice A355 x354.length c356, Value.int .i64 (w64 (vt470 * vt477)), Value.slice (some ⟨b484, 0, none⟩) ([w64 (vt470 * vt477)] : List Int).length 1, Value.slice A493 (x354 ++ ([w64 (vt470 * vt477)] : List Int)).length c494, Value.pointer (some ⟨b52, 4, none⟩), Value.int .i64 (w64 (x340 + 1))].getD i_ undef), (L336.trans (L390.trans (L426.trans (L454.trans (L465.trans (L474.trans L481)))))), HS558, (HO407.mono (L426.trans (L454.trans (L465.trans (L474.trans L481))))), (HO443.mono (L454.trans (L465.trans (L474.trans L481)))), HO498, h, (by kernel_rfl)⟩
    · have c469 : ¬ (vt461 = 0) := c469
      refine wpRwI 66 (x := (vt461 == 0)) (v := false) (by kernel_rfl) (beq_eq_false_iff_ne.mpr c469) ?_
      refine condF (by kernel_rfl) ?_
      refine wp_skip ?_
      refine hK458 _ _ ?_
      refine wp_region_lit ?_
      refine seqL1 (by kernel_rfl) ?_
      refine seqK rfl (does_run (run_load rfl Tryd.underlying27 rfl (by kernel_rfl : _ = Value.pointer (some ⟨b52, 4, none⟩)) (HS467.u1.cell 4)) ?_)
      refine seqL1 (by kernel_rfl) ?_
      refine seqK rfl (does_lit (e := (tInt .i64)) (E := 3) (vs := #[(0, Value.int .i64 vt450)]) (cs := #[.int .i64 vt450]) (xs := ([vt450] : List Int)) rfl Tryd.underlying27 (by kernel_rfl) (by kernel_rfl) ⟨[.int .i64 vt450], _, rfl, rfl, rfl⟩ rfl HS467 ?_ (by decide))
      intro b502 W503 s504 HS505 _ HO506
      have hq_ := guard_some h; clear h; obtain ⟨c508, h⟩ := hq_
      have c508 : (x354.length + 1) * 8 ≤ 140737488355328 := c508
      have HS509 := HS505.u5
      have HS510 := HS509.u1
      refine seqK rfl (does_append1 (e := (tInt .i64)) (E := 3) (xs := x354) (ys := ([vt450] : List Int)) rfl (by kernel_rfl : _ = Value.slice A355 x354.length c356) (by kernel_rfl : _ = Value.slice (some ⟨b502, 0, none⟩) ([vt450] : List Int).length 1) Tryd.underlying27 inf3 (HO358.mono (L390.trans (L426.trans (L454.trans L465)))) HO506 HS510 c508 (lim63 c508 (by decide)) ?_)
      intro A511 c512 s513 W514 HS515 HO516
      have HS517 := HS515.u2
      refine seqL1 (by kernel_rfl) ?_
      refine seqK rfl (does_store (n := 1) (vs := [.slice A511 (x354 ++ ([vt450] : List Int)).length c512]) (cs' := #[.int .i64 vt17, .int .i64 vt24, .slice A402 (x342 ++ ([vt386] : List Int)).length c403, .slice A438 (x348 ++ ([vt422] : List Int)).length c439, .slice A511 (x354 ++ ([vt450] : List Int)).length c512, .int .i64 x134, .int .i64 x135, .int .i64 x136]) rfl (by kernel_rfl) (by kernel_rfl : _ = Value.pointer (some ⟨b52, 4, none⟩)) (by kernel_rfl : _ = Value.slice A511 (x354 ++ ([vt450] : List Int)).length c512) rfl rfl (by intro u_ hu_; simp only [List.mem_cons, List.not_mem_nil, or_false] at hu_; subst hu_; rfl) HS517 (Nat.le_of_ble_eq_true rfl) (by kernel_rfl) ?_)
      intro W518 HS519
      refine wpList_nil ?_
      refine hn370 _ _ ?_
      refine hK367 _ _ ?_
      refine wp_region_lit ?_
      refine seqS2 (a' := ⟨#[pV b1 0, iV most7, uV, uV, pV b10 0, pV b52 0, iV vt145, iV vt450, pV b1 0, iV most7, iV vt17, pV b1 0, iV most7, iV vt24, pV b1 0, iV vt31, pV b1 0, iV vt38, pV b1 0, iV vt45, .agg #[iV vt17, iV vt24, .slice none 0 0, .slice none 0 0, .slice none 0 0, iV vt31, iV vt38, iV vt45], pV b1 0, iV vt63, .bool (vt63 == 0), .bool (vt63 == 0), (j132 0), (j132 1), (j132 2), (j132 3), (j132 4), (j132 5), (j132 6), (j132 7), (j132 8), (j132 9), (j132 10), pV b1 0, iV vt145, pV b52 0, iV vt17, pV b52 1, iV vt24, iV (w64 (vt17 * vt24)), iV (w64 (x340 + 1)), tV, pV b52 2, .slice A343 x342.length c344, pV b1 0, iV vt386, .slice (some ⟨b393, 0, none⟩) ([vt386] : List Int).length 1, .slice A402 (x342 ++ ([vt386] : List Int)).length c403, pV b52 2, pV b52 3, .slice A349 x348.length c350, pV b1 0, iV vt145, iV (w64 (vt145 * 16777216)), iV (w64 ((w64 (vt145 * 16777216)) + 1)), iV vt422, .slice (some ⟨b429, 0, none⟩) ([vt422] : List Int).length 1, .slice A438 (x348 ++ ([vt422] : List Int)).length c439, pV b52 3, pV b1 0, iV vt450, pV b1 0, iV vt461, fV, (j339 24), (j339 25), (j339 26), (j339 27), (j339 28), pV b52 4, .slice A355 x354.length c356, iV vt450, .slice (some ⟨b502, 0, none⟩) ([vt450] : List Int).length 1, .slice A511 (x354 ++ ([vt450] : List Int)).length c512, pV b52 4, iV (w64 (x340 + 1)), uV], []⟩) (by kernel_rfl) ?_
      refine wpList_nil ?_
      refine hK333 n334 _ _ (Nat.lt_succ_self _) ?_
      have HS559 := HS519.u5
      have HS560 := HS559.u1
      have HS561 := HS560.u3
      have HS562 := HS561.u5
      have HS563 := HS562.u5
      have HS564 := HS563.u5
      exact ⟨f464, A402, c403, s404, A438, c439, s440, A511, c512, s513, (w64 (x340 + 1)), vt462, (x342 ++ ([vt386] : List Int)), (x348 ++ ([vt422] : List Int)), (x354 ++ ([vt450] : List Int)), (fun i_ => [Value.int .i64 vt450, Value.bool true, Value.pointer (some ⟨b52, 2, none⟩), Value.slice A343 x342.length c344, Value.pointer (some ⟨b1, 0, none⟩), Value.int .i64 vt386, Value.slice (some ⟨b393, 0, none⟩) ([vt386] : List Int).length 1, Value.slice A402 (x342 ++ ([vt386] : List Int)).length c403, Value.pointer (some ⟨b52, 2, none⟩), Value.pointer (some ⟨b52, 3, none⟩), Value.slice A349 x348.length c350, Value.pointer (some ⟨b1, 0, none⟩), Value.int .i64 vt145, Value.int .i64 (w64 (vt145 * 16777216)), Value.int .i64 (w64 ((w64 (vt145 * 16777216)) + 1)), Value.int .i64 vt422, Value.slice (some ⟨b429, 0, none⟩) ([vt422] : List Int).length 1, Value.slice A438 (x348 ++ ([vt422] : List Int)).length c439, Value.pointer (some ⟨b52, 3, none⟩), Value.pointer (some ⟨b1, 0, none⟩), Value.int .i64 vt450, Value.pointer (some ⟨b1, 0, none⟩), Value.int .i64 vt461, Value.bool false, (j339 24), (j339 25), (j339 26), (j339 27), (j339 28), Value.pointer (some ⟨b52, 4, none⟩), Value.slice A355 x354.length c356, Value.int .i64 vt450, Value.slice (some ⟨b502, 0, none⟩) ([vt450] : List Int).length 1, Value.slice A511 (x354 ++ ([vt450] : List Int)).length c512, Value.pointer (some ⟨b52, 4, none⟩), Value.int .i64 (w64 (x340 + 1))].getD i_ undef), (L336.trans (L390.trans (L426.trans (L454.trans L465)))), HS564, (HO407.mono (L426.trans (L454.trans L465))), (HO443.mono (L454.trans L465)), HO516, h, (by kernel_rfl)⟩
  · have c365 : ¬ (x340 < (w64 (vt17 * vt24))) := c365
    refine wpRwI 44 (x := (decide (x340 < (w64 (vt17 * vt24))))) (v := false) (by kernel_rfl) (decide_eq_false c365) ?_
    refine condF (by kernel_rfl) ?_
    refine wp_exit ?_
    refine hx157 _ _ ?_
    exact J545 f335 A343 c344 s345 A349 c350 s351 A355 c356 s357 x341 x342 x348 x354 (fun i_ => [(j339 0), Value.int .i64 x340, Value.bool false, (j339 2), (j339 3), (j339 4), (j339 5), (j339 6), (j339 7), (j339 8), (j339 9), (j339 10), (j339 11), (j339 12), (j339 13), (j339 14), (j339 15), (j339 16), (j339 17), (j339 18), (j339 19), (j339 20), (j339 21), (j339 22), (j339 23), (j339 24), (j339 25), (j339 26), (j339 27), (j339 28), (j339 29), (j339 30), (j339 31), (j339 32), (j339 33), (j339 34), (j339 35)].getD i_ undef) W337 _ L336 h HS338 HO346 HO352 HO358 (by kernel_rfl)
 clear h; have h := hv137; clear hv137
 have hq_ := ite_some h; clear h; rcases hq_ with ⟨c80, h⟩ | ⟨c80, h⟩
 · have c80 : vt63 = 0 := c80
   refine wpRwI 23 (x := (vt63 == 0)) (v := true) (by kernel_rfl) (beq_iff_eq.mpr c80) ?_
   refine wpRwI 24 (x := (vt63 == 0)) (v := true) (by kernel_rfl) (beq_iff_eq.mpr c80) ?_
   refine condT (by kernel_rfl) ?_
   refine wp_region_lit ?_
   have hq_ := bind_some h; clear h; obtain ⟨⟨vt81, vt82⟩, hc83, h⟩ := hq_
   refine seqL1 (by kernel_rfl) ?_
   refine seqK rfl (does_call (f := 24) (args := #[.pointer (some ⟨b1, 0, none⟩), .int .i64 200, .int .i64 5000]) (by kernel_rfl) (spymake_Stream_Range.calls k b1 A4 c5 (⟨s3.L, vt64⟩ : S_Stream) 200 5000 HS69 (HR6.mono (L21.trans (L28.trans (L35.trans (L42.trans (L49.trans L67)))))) vt81 vt82 hc83) ?_)
   rintro _ W86 ⟨f84, rfl, L85, HS87⟩
   refine ⟨_, rfl, ?_⟩
   have HS88 := HS87.u1
   refine seqL1 (by kernel_rfl) ?_
   refine seqK rfl (does_store (n := 1) (vs := [.int .i64 vt81]) (cs' := #[.int .i64 vt17, .int .i64 vt24, .slice none 0 0, .slice none 0 0, .slice none 0 0, .int .i64 vt81, .int .i64 vt38, .int .i64 vt45]) rfl (by kernel_rfl) (by kernel_rfl : _ = Value.pointer (some ⟨b52, 5, none⟩)) (by kernel_rfl : _ = Value.int .i64 vt81) rfl rfl (by intro u_ hu_; simp only [List.mem_cons, List.not_mem_nil, or_false] at hu_; subst hu_; rfl) HS88 (Nat.le_of_ble_eq_true rfl) (by kernel_rfl) ?_)
   intro W89 HS90
   refine wpList_nil ?_
   refine fnRwI (F := (B70 Exit.normal)) 24 (x := true) (v := (vt63 == 0)) (by kernel_rfl) (Eq.symm (beq_iff_eq.mpr c80)) ?_
   refine fnRwI (F := (B70 Exit.normal)) 23 (x := true) (v := (vt63 == 0)) (by kernel_rfl) (Eq.symm (beq_iff_eq.mpr c80)) ?_
   have HS140 := HS90.u2
   have HS141 := HS140.u1
   have HS142 := HS141.u2
   exact J138 f84 vt82 vt81 vt38 vt45 (fun i_ => [Value.pointer (some ⟨b1, 0, none⟩), Value.int .i64 vt81, Value.pointer (some ⟨b52, 5, none⟩), undef, undef, undef, undef, undef, undef, undef, undef].getD i_ undef) W89 _ L85 h HS142 (by kernel_rfl)
 · have c80 : ¬ (vt63 = 0) := c80
   refine wpRwI 23 (x := (vt63 == 0)) (v := false) (by kernel_rfl) (beq_eq_false_iff_ne.mpr c80) ?_
   refine wpRwI 24 (x := (vt63 == 0)) (v := false) (by kernel_rfl) (beq_eq_false_iff_ne.mpr c80) ?_
   refine condF (by kernel_rfl) ?_
   refine wp_seq_k (fun K91 hK92 => ?_)
   refine wp_region_lit ?_
   refine seqS2 (a' := ⟨#[pV b1 0, iV most7, uV, uV, pV b10 0, pV b52 0, uV, uV, pV b1 0, iV most7, iV vt17, pV b1 0, iV most7, iV vt24, pV b1 0, iV vt31, pV b1 0, iV vt38, pV b1 0, iV vt45, .agg #[iV vt17, iV vt24, .slice none 0 0, .slice none 0 0, .slice none 0 0, iV vt31, iV vt38, iV vt45], pV b1 0, iV vt63, fV, fV, uV, uV, uV, .bool (vt63 == 1), .bool (vt63 == 1), uV, uV, uV, uV, uV, uV, uV, uV, uV, uV, uV, uV, uV, uV, uV, uV, uV, uV, uV, uV, uV, uV, uV, uV, uV, uV, uV, uV, uV, uV, uV, uV, uV, uV, uV, uV, uV, uV, uV, uV, uV, uV, uV, uV, uV, uV, uV, uV, uV, uV], []⟩) (by kernel_rfl) ?_
   refine wpList_nil ?_
   refine hK92 _ _ ?_
   have hq_ := bind_some h; clear h; obtain ⟨v93, hv122, h⟩ := hq_
   have J123 : ∀ (f114 : FM) (x119 : Int) (x120 : Int) (x121 : Int) (j118 : Nat → Value) (W116 : World) (a_ : Act), FM.le f66 f114 → some ((x119, x120, x121)) = some v93 → St t W116 f114 ([(b1, .cells #[.slice A4 s3.L.length c5, .int .i64 x119] 37 (0, 0))] :: [(b52, .cells #[.int .i64 vt17, .int .i64 vt24, .slice none 0 0, .slice none 0 0, .slice none 0 0, .int .i64 vt31, .int .i64 x120, .int .i64 x121] 56 (0, 0))] :: [(b10, .cells #[.int .i64 0, .int .i64 0, .slice none 0 0, .slice none 0 0, .slice none 0 0, .int .i64 0, .int .i64 0, .int .i64 0] 56 (0, 0))] :: H) → a_ = ⟨#[pV b1 0, iV most7, uV, uV, pV b10 0, pV b52 0, uV, uV, pV b1 0, iV most7, iV vt17, pV b1 0, iV most7, iV vt24, pV b1 0, iV vt31, pV b1 0, iV vt38, pV b1 0, iV vt45, .agg #[iV vt17, iV vt24, .slice none 0 0, .slice none 0 0, .slice none 0 0, iV vt31, iV vt38, iV vt45], pV b1 0, iV vt63, fV, fV, uV, uV, uV, .bool (vt63 == 1), .bool (vt63 == 1), (j118 0), (j118 1), (j118 2), (j118 3), (j118 4), (j118 5), uV, uV, uV, uV, uV, uV, uV, uV, uV, uV, uV, uV, uV, uV, uV, uV, uV, uV, uV, uV, uV, uV, uV, uV, uV, uV, uV, uV, uV, uV, uV, uV, uV, uV, uV, uV, uV, uV, uV, uV, uV, uV, uV, uV], []⟩ → B70 Exit.normal a_ W116 := by
    intro f114 x119 x120 x121 j118 W116 a_ L115 hj124 HS117  hfr_; subst hfr_
    injection hj124 with hj124; subst hj124; try dsimp only at h
    refine fnRwI (F := (B70 Exit.normal)) 24 (x := false) (v := (vt63 == 0)) (by kernel_rfl) (Eq.symm (beq_eq_false_iff_ne.mpr c80)) ?_
    refine fnRwI (F := (B70 Exit.normal)) 23 (x := false) (v := (vt63 == 0)) (by kernel_rfl) (Eq.symm (beq_eq_false_iff_ne.mpr c80)) ?_
    exact J138 f114 x119 vt31 x120 x121 (fun i_ => [undef, undef, undef, Value.bool (vt63 == 1), Value.bool (vt63 == 1), (j118 0), (j118 1), (j118 2), (j118 3), (j118 4), (j118 5)].getD i_ undef) W116 _ L115 h HS117 (by kernel_rfl)
   clear h; have h := hv122; clear hv122
   have hq_ := ite_some h; clear h; rcases hq_ with ⟨c94, h⟩ | ⟨c94, h⟩
   · have c94 : vt63 = 1 := c94
     refine wpRwI 28 (x := (vt63 == 1)) (v := true) (by kernel_rfl) (beq_iff_eq.mpr c94) ?_
     refine wpRwI 29 (x := (vt63 == 1)) (v := true) (by kernel_rfl) (beq_iff_eq.mpr c94) ?_
     refine condT (by kernel_rfl) ?_
     refine wp_region_lit ?_
     have hq_ := bind_some h; clear h; obtain ⟨⟨vt95, vt96⟩, hc97, h⟩ := hq_
     refine seqL1 (by kernel_rfl) ?_
     refine seqK rfl (does_call (f := 24) (args := #[.pointer (some ⟨b1, 0, none⟩), .int .i64 1, .int .i64 64]) (by kernel_rfl) (spymake_Stream_Range.calls k b1 A4 c5 (⟨s3.L, vt64⟩ : S_Stream) 1 64 HS69 (HR6.mono (L21.trans (L28.trans (L35.trans (L42.trans (L49.trans L67)))))) vt95 vt96 hc97) ?_)
     rintro _ W100 ⟨f98, rfl, L99, HS101⟩
     refine ⟨_, rfl, ?_⟩
     have hq_ := bind_some h; clear h; obtain ⟨⟨vt102, vt103⟩, hc104, h⟩ := hq_
     refine seqL1 (by kernel_rfl) ?_
     refine seqK rfl (does_call (f := 23) (args := #[.pointer (some ⟨b1, 0, none⟩), .int .i64 20]) (by kernel_rfl) (spymake_Stream_Next.calls k b1 A4 c5 (⟨s3.L, vt96⟩ : S_Stream) 20 HS101 (HR6.mono (L21.trans (L28.trans (L35.trans (L42.trans (L49.trans (L67.trans L99))))))) vt102 vt103 hc104) ?_)
     rintro _ W107 ⟨f105, rfl, L106, HS108⟩
     refine ⟨_, rfl, ?_⟩
     have HS109 := HS108.u1
     refine seqL1 (by kernel_rfl) ?_
     refine seqK rfl (does_store (n := 1) (vs := [.int .i64 vt95]) (cs' := #[.int .i64 vt17, .int .i64 vt24, .slice none 0 0, .slice none 0 0, .slice none 0 0, .int .i64 vt31, .int .i64 vt95, .int .i64 vt45]) rfl (by kernel_rfl) (by kernel_rfl : _ = Value.pointer (some ⟨b52, 6, none⟩)) (by kernel_rfl : _ = Value.int .i64 vt95) rfl rfl (by intro u_ hu_; simp only [List.mem_cons, List.not_mem_nil, or_false] at hu_; subst hu_; rfl) HS109 (Nat.le_of_ble_eq_true rfl) (by kernel_rfl) ?_)
     intro W110 HS111
     refine seqL1 (by kernel_rfl) ?_
     refine seqK rfl (does_store (n := 1) (vs := [.int .i64 vt102]) (cs' := #[.int .i64 vt17, .int .i64 vt24, .slice none 0 0, .slice none 0 0, .slice none 0 0, .int .i64 vt31, .int .i64 vt95, .int .i64 vt102]) rfl (by kernel_rfl) (by kernel_rfl : _ = Value.pointer (some ⟨b52, 7, none⟩)) (by kernel_rfl : _ = Value.int .i64 vt102) rfl rfl (by intro u_ hu_; simp only [List.mem_cons, List.not_mem_nil, or_false] at hu_; subst hu_; rfl) HS111 (Nat.le_of_ble_eq_true rfl) (by kernel_rfl) ?_)
     intro W112 HS113
     refine wpList_nil ?_
     refine fnRwI (F := (B70 Exit.normal)) 29 (x := true) (v := (vt63 == 1)) (by kernel_rfl) (Eq.symm (beq_iff_eq.mpr c94)) ?_
     refine fnRwI (F := (B70 Exit.normal)) 28 (x := true) (v := (vt63 == 1)) (by kernel_rfl) (Eq.symm (beq_iff_eq.mpr c94)) ?_
     have HS125 := HS113.u2
     have HS126 := HS125.u1
     have HS127 := HS126.u2
     exact J123 f105 vt103 vt95 vt102 (fun i_ => [Value.pointer (some ⟨b1, 0, none⟩), Value.int .i64 vt95, Value.pointer (some ⟨b1, 0, none⟩), Value.int .i64 vt102, Value.pointer (some ⟨b52, 6, none⟩), Value.pointer (some ⟨b52, 7, none⟩)].getD i_ undef) W112 _ (L99.trans L106) h HS127 (by kernel_rfl)
   · have c94 : ¬ (vt63 = 1) := c94
     refine wpRwI 28 (x := (vt63 == 1)) (v := false) (by kernel_rfl) (beq_eq_false_iff_ne.mpr c94) ?_
     refine wpRwI 29 (x := (vt63 == 1)) (v := false) (by kernel_rfl) (beq_eq_false_iff_ne.mpr c94) ?_
     refine condF (by kernel_rfl) ?_
     refine wp_skip ?_
     refine fnRwI (F := (B70 Exit.normal)) 29 (x := false) (v := (vt63 == 1)) (by kernel_rfl) (Eq.symm (beq_eq_false_iff_ne.mpr c94)) ?_
     refine fnRwI (F := (B70 Exit.normal)) 28 (x := false) (v := (vt63 == 1)) (by kernel_rfl) (Eq.symm (beq_eq_false_iff_ne.mpr c94)) ?_
     exact J123 f66 vt64 vt38 vt45 (fun i_ => [undef, undef, undef, undef, undef, undef].getD i_ undef) W68 _ (FM.le.refl _) h HS69 (by kernel_rfl)

set_option maxRecDepth 100000 in
set_option maxHeartbeats 4000000 in
theorem spymake_Stream_Plate.calls (k : Nat) (b1 : Nat) (A4 : Option Addr) (c5 : Nat) (s3 : S_Stream) {t w : World} {f : FM} {H : List Seg} (HS : St t w f ([(b1, .cells #[.slice A4 s3.L.length c5, .int .i64 s3.vat] 37 (0, 0))] :: H)) (HR6 : SlR (tInt .i64) f A4 c5 s3.L) (rr1 : S_Plate) (rr2 : Int) (h : spymake_Stream_Plate k s3 = some (rr1, rr2)) :
    Calls Tryd.prog 38 #[.pointer (some ⟨b1, 0, none⟩)] w (fun e w' => ∃ (g : FM), e = .returned (Value.agg #[.int .i64 rr1.A, .int .i64 rr1.B, .int .i64 rr1.C, .int .i64 rr1.D]) ∧ FM.le f g ∧ St t w' g ([(b1, .cells #[.slice A4 s3.L.length c5, .int .i64 rr2] 37 (0, 0))] :: H)) := by
 unfold spymake_Stream_Plate at h
 refine enter Tryd.func38 rfl (tm := #[pV b1 0, uV, uV, uV, uV, uV, uV, uV, uV, uV, uV, uV, uV, uV, uV, uV, uV, uV, uV, uV, uV, uV, uV, uV, uV, uV, uV, uV, uV, uV, uV, uV, uV, uV, uV, uV]) (by kernel_rfl) ?_
 intro B hret hnor hnp
 refine wp_seq_k (fun K7 hK8 => ?_)
 refine wp_region_lit ?_
 refine seqK rfl (does_alloc (z := Value.agg #[.int .i64 0, .int .i64 0, .int .i64 0, .int .i64 0]) (cs := #[.int .i64 0, .int .i64 0, .int .i64 0, .int .i64 0]) rfl (by kernel_rfl) rfl HS ?_)
 intro b9 W10 HS11
 refine wpList_nil ?_
 refine hK8 _ _ ?_
 refine wp_seq_k (fun K13 hK14 => ?_)
 refine wp_region_lit ?_
 refine seqK rfl (does_lit (e := (tInt .i64)) (E := 3) (vs := #[(0, Value.int .i64 2), (1, Value.int .i64 30), (2, Value.int .i64 1024)]) (cs := #[.int .i64 2, .int .i64 30, .int .i64 1024]) (xs := ([2, 30, 1024] : List Int)) rfl Tryd.underlying27 (by kernel_rfl) (by kernel_rfl) ⟨[.int .i64 2], _, rfl, rfl, ⟨[.int .i64 30], _, rfl, rfl, ⟨[.int .i64 1024], _, rfl, rfl, rfl⟩⟩⟩ rfl HS11 ?_ (by decide))
 intro b15 W16 s17 HS18 _ HO19
 have HS21 := HS18.u2
 have hq_ := bind_some h; clear h; obtain ⟨⟨vt22, vt23⟩, hc24, h⟩ := hq_
 refine seqL1 (by kernel_rfl) ?_
 refine seqK rfl (does_call (f := 23) (args := #[.pointer (some ⟨b1, 0, none⟩), .int .i64 3]) (by kernel_rfl) (spymake_Stream_Next.calls k b1 A4 c5 s3 3 HS21 HR6 vt22 vt23 hc24) ?_)
 rintro _ W27 ⟨f25, rfl, L26, HS28⟩
 refine ⟨_, rfl, ?_⟩
 have hq_ := guard_some h; clear h; obtain ⟨c29, h⟩ := hq_
 have c29 : 0 ≤ vt22 := c29
 have hq_ := guard_some h; clear h; obtain ⟨c30, h⟩ := hq_
 have c30 : vt22 < (([2, 30, 1024] : List Int).length : Int) := c30
 obtain ⟨cs31, hr32, hc33⟩ := (HO19.mono L26).at' (i := vt22) c29 c30
 obtain rfl := hr32
 refine seqK rfl (does_run (run_index (sz := 1) rfl Tryd.underlying27 (by kernel_rfl) (by kernel_rfl : _ = Value.slice (some ⟨b15, 0, none⟩) ([2, 30, 1024] : List Int).length 3) (by kernel_rfl : _ = Value.int .i64 vt22) c29 c30 W27) ?_)
 refine seqK rfl (does_run (run_load rfl Tryd.underlying3 rfl (by kernel_rfl : _ = Value.pointer (some ⟨b15, 0 + (vt22 : Int).toNat * 1, none⟩)) ((hc33 HS28.u1) 0 (by decide))) ?_)
 refine seqS1 (a' := ⟨#[pV b1 0, uV, pV b9 0, iV (rd ([2, 30, 1024] : List Int) vt22), uV, .slice (some ⟨b15, 0, none⟩) ([2, 30, 1024] : List Int).length 3, pV b1 0, iV vt22, pV b15 (0 + (vt22 : Int).toNat * 1), iV (rd ([2, 30, 1024] : List Int) vt22), uV, uV, uV, uV, uV, uV, uV, uV, uV, uV, uV, uV, uV, uV, uV, uV, uV, uV, uV, uV, uV, uV, uV, uV, uV, uV], []⟩) (by kernel_rfl) ?_
 refine wpList_nil ?_
 refine hK14 _ _ ?_
 refine wp_seq_k (fun K34 hK35 => ?_)
 refine wp_region_lit ?_
 have hq_ := bind_some h; clear h; obtain ⟨⟨vt36, vt37⟩, hc38, h⟩ := hq_
 refine seqL4 (by kernel_rfl) ?_
 refine seqK rfl (does_call (f := 24) (args := #[.pointer (some ⟨b1, 0, none⟩), .int .i64 (w64 (0 - (rd ([2, 30, 1024] : List Int) vt22))), .int .i64 (rd ([2, 30, 1024] : List Int) vt22)]) (by kernel_rfl) (spymake_Stream_Range.calls k b1 A4 c5 (⟨s3.L, vt23⟩ : S_Stream) (w64 (0 - (rd ([2, 30, 1024] : List Int) vt22))) (rd ([2, 30, 1024] : List Int) vt22) HS28 (HR6.mono L26) vt36 vt37 hc38) ?_)
 rintro _ W41 ⟨f39, rfl, L40, HS42⟩
 refine ⟨_, rfl, ?_⟩
 have hq_ := bind_some h; clear h; obtain ⟨⟨vt43, vt44⟩, hc45, h⟩ := hq_
 refine seqL4 (by kernel_rfl) ?_
 refine seqK rfl (does_call (f := 24) (args := #[.pointer (some ⟨b1, 0, none⟩), .int .i64 (w64 (0 - (rd ([2, 30, 1024] : List Int) vt22))), .int .i64 (rd ([2, 30, 1024] : List Int) vt22)]) (by kernel_rfl) (spymake_Stream_Range.calls k b1 A4 c5 (⟨s3.L, vt37⟩ : S_Stream) (w64 (0 - (rd ([2, 30, 1024] : List Int) vt22))) (rd ([2, 30, 1024] : List Int) vt22) HS42 (HR6.mono (L26.trans L40)) vt43 vt44 hc45) ?_)
 rintro _ W48 ⟨f46, rfl, L47, HS49⟩
 refine ⟨_, rfl, ?_⟩
 have hq_ := bind_some h; clear h; obtain ⟨⟨vt50, vt51⟩, hc52, h⟩ := hq_
 refine seqL4 (by kernel_rfl) ?_
 refine seqK rfl (does_call (f := 24) (args := #[.pointer (some ⟨b1, 0, none⟩), .int .i64 (w64 (0 - (rd ([2, 30, 1024] : List Int) vt22))), .int .i64 (rd ([2, 30, 1024] : List Int) vt22)]) (by kernel_rfl) (spymake_Stream_Range.calls k b1 A4 c5 (⟨s3.L, vt44⟩ : S_Stream) (w64 (0 - (rd ([2, 30, 1024] : List Int) vt22))) (rd ([2, 30, 1024] : List Int) vt22) HS49 (HR6.mono (L26.trans (L40.trans L47))) vt50 vt51 hc52) ?_)
 rintro _ W55 ⟨f53, rfl, L54, HS56⟩
 refine ⟨_, rfl, ?_⟩
 have hq_ := bind_some h; clear h; obtain ⟨⟨vt57, vt58⟩, hc59, h⟩ := hq_
 refine seqL4 (by kernel_rfl) ?_
 refine seqK rfl (does_call (f := 24) (args := #[.pointer (some ⟨b1, 0, none⟩), .int .i64 (w64 (0 - (rd ([2, 30, 1024] : List Int) vt22))), .int .i64 (rd ([2, 30, 1024] : List Int) vt22)]) (by kernel_rfl) (spymake_Stream_Range.calls k b1 A4 c5 (⟨s3.L, vt51⟩ : S_Stream) (w64 (0 - (rd ([2, 30, 1024] : List Int) vt22))) (rd ([2, 30, 1024] : List Int) vt22) HS56 (HR6.mono (L26.trans (L40.trans (L47.trans L54)))) vt57 vt58 hc59) ?_)
 rintro _ W62 ⟨f60, rfl, L61, HS63⟩
 refine ⟨_, rfl, ?_⟩
 refine seqL1 (by kernel_rfl) ?_
 refine seqK rfl (does_alloc (z := Value.agg #[.int .i64 0, .int .i64 0, .int .i64 0, .int .i64 0]) (cs := #[.int .i64 0, .int .i64 0, .int .i64 0, .int .i64 0]) rfl (by kernel_rfl) rfl HS63 ?_)
 intro b64 W65 HS66
 refine seqK rfl (does_store (n := 4) (vs := [.int .i64 vt36, .int .i64 vt43, .int .i64 vt50, .int .i64 vt57]) (cs' := #[.int .i64 vt36, .int .i64 vt43, .int .i64 vt50, .int .i64 vt57]) rfl (by kernel_rfl) (by kernel_rfl : _ = Value.pointer (some ⟨b64, 0, none⟩)) (by kernel_rfl : _ = Value.agg #[.int .i64 vt36, .int .i64 vt43, .int .i64 vt50, .int .i64 vt57]) rfl rfl (by intro u_ hu_; simp only [List.mem_cons, List.not_mem_nil, or_false] at hu_; rcases hu_ with rfl | rfl | rfl | rfl <;> rfl) HS66 (Nat.le_of_ble_eq_true rfl) (by kernel_rfl) ?_)
 intro W68 HS69
 refine wpList_nil ?_
 refine hK35 _ _ ?_
 refine wp_seq_k (fun K70 hK71 => ?_)
 refine wp_seq_k (fun K72 hK73 => ?_)
 refine wp_region_lit ?_
 refine seqK rfl (does_run (run_loadN (n := 4) rfl Tryd.underlying63 rfl (by kernel_rfl) (by kernel_rfl : _ = Value.pointer (some ⟨b64, 0, none⟩)) (cs := [.int .i64 vt36, .int .i64 vt43, .int .i64 vt50, .int .i64 vt57]) rfl (HS69.cells 0 4 _ rfl)) ?_)
 refine seqL1 (by kernel_rfl) ?_
 refine seqK rfl (does_run (run_eqS (b := ((vt36 == 0) && ((vt43 == 0) && ((vt50 == 0) && ((vt57 == 0) && true))))) rfl (by kernel_rfl : _ = Value.agg #[.int .i64 vt36, .int .i64 vt43, .int .i64 vt50, .int .i64 vt57]) (by kernel_rfl : _ = Value.agg #[.int .i64 0, .int .i64 0, .int .i64 0, .int .i64 0]) (by kernel_rfl) (by kernel_rfl) W68) ?_)
 refine wpList_nil ?_
 refine hK73 _ _ ?_
 have hq_ := ite_some h; clear h; rcases hq_ with ⟨c75, h⟩ | ⟨c75, h⟩
 · have c75 : ((vt36 == 0) && ((vt43 == 0) && ((vt50 == 0) && ((vt57 == 0) && true)))) = true := c75
   refine wpRwI 33 (x := ((vt36 == 0) && ((vt43 == 0) && ((vt50 == 0) && ((vt57 == 0) && true))))) (v := true) (by kernel_rfl) c75 ?_
   refine condT (by kernel_rfl) ?_
   refine wp_region_lit ?_
   refine seqL1 (by kernel_rfl) ?_
   refine seqK rfl (does_store (n := 1) (vs := [.int .i64 1]) (cs' := #[.int .i64 1, .int .i64 vt43, .int .i64 vt50, .int .i64 vt57]) rfl (by kernel_rfl) (by kernel_rfl : _ = Value.pointer (some ⟨b64, 0, none⟩)) (by kernel_rfl : _ = Value.int .i64 1) rfl rfl (by intro u_ hu_; simp only [List.mem_cons, List.not_mem_nil, or_false] at hu_; subst hu_; rfl) HS69 (Nat.le_of_ble_eq_true rfl) (by kernel_rfl) ?_)
   intro W76 HS77
   refine wpList_nil ?_
   refine hK71 _ _ ?_
   refine wp_seq_k (fun K78 hK79 => ?_)
   refine wp_region_lit ?_
   refine seqK rfl (does_run (run_loadN (n := 4) rfl Tryd.underlying63 rfl (by kernel_rfl) (by kernel_rfl : _ = Value.pointer (some ⟨b64, 0, none⟩)) (cs := [.int .i64 1, .int .i64 vt43, .int .i64 vt50, .int .i64 vt57]) rfl (HS77.cells 0 4 _ rfl)) ?_)
   have HS80 := HS77.u3
   refine seqK rfl (does_store (n := 4) (vs := [.int .i64 1, .int .i64 vt43, .int .i64 vt50, .int .i64 vt57]) (cs' := #[.int .i64 1, .int .i64 vt43, .int .i64 vt50, .int .i64 vt57]) rfl (by kernel_rfl) (by kernel_rfl : _ = Value.pointer (some ⟨b9, 0, none⟩)) (by kernel_rfl : _ = Value.agg #[.int .i64 1, .int .i64 vt43, .int .i64 vt50, .int .i64 vt57]) rfl rfl (by intro u_ hu_; simp only [List.mem_cons, List.not_mem_nil, or_false] at hu_; rcases hu_ with rfl | rfl | rfl | rfl <;> rfl) HS80 (Nat.le_of_ble_eq_true rfl) (by kernel_rfl) ?_)
   intro W81 HS82
   refine wpList_nil ?_
   refine hK79 _ _ ?_
   refine wp_ret ?_
   refine hret _ _ ?_
   refine ends (v := Value.agg #[.int .i64 1, .int .i64 vt43, .int .i64 vt50, .int .i64 vt57]) (results1 (q1 := .cell 2 63) (by kernel_rfl) (resN (n := 4) (cs := [.int .i64 1, .int .i64 vt43, .int .i64 vt50, .int .i64 vt57]) (by kernel_rfl : _ = Value.pointer (some ⟨b9, 0, none⟩)) Tryd.underlying63 rfl (by kernel_rfl) rfl (HS82.cells 0 4 _ rfl))) (by kernel_rfl) ?_
   have HS88 := HS82.u2
   have HS89 := HS88.u3
   have HS90 := HS89.u3
   have HS91 := HS90.u3
   have HS92 := HS91.drop
   have HS93 := HS92.drop
   have HS94 := HS93.drop
   injection h with h
   injection h with h0_ h
   subst h0_ h
   exact ⟨f60, rfl, (L26.trans (L40.trans (L47.trans (L54.trans L61)))), HS94⟩
 · have c75 : ¬ (((vt36 == 0) && ((vt43 == 0) && ((vt50 == 0) && ((vt57 == 0) && true)))) = true) := c75
   refine wpRwI 33 (x := ((vt36 == 0) && ((vt43 == 0) && ((vt50 == 0) && ((vt57 == 0) && true))))) (v := false) (by kernel_rfl) (Bool.eq_false_iff.mpr c75) ?_
   refine condF (by kernel_rfl) ?_
   refine wp_skip ?_
   refine hK71 _ _ ?_
   refine wp_seq_k (fun K83 hK84 => ?_)
   refine wp_region_lit ?_
   refine seqK rfl (does_run (run_loadN (n := 4) rfl Tryd.underlying63 rfl (by kernel_rfl) (by kernel_rfl : _ = Value.pointer (some ⟨b64, 0, none⟩)) (cs := [.int .i64 vt36, .int .i64 vt43, .int .i64 vt50, .int .i64 vt57]) rfl (HS69.cells 0 4 _ rfl)) ?_)
   have HS85 := HS69.u3
   refine seqK rfl (does_store (n := 4) (vs := [.int .i64 vt36, .int .i64 vt43, .int .i64 vt50, .int .i64 vt57]) (cs' := #[.int .i64 vt36, .int .i64 vt43, .int .i64 vt50, .int .i64 vt57]) rfl (by kernel_rfl) (by kernel_rfl : _ = Value.pointer (some ⟨b9, 0, none⟩)) (by kernel_rfl : _ = Value.agg #[.int .i64 vt36, .int .i64 vt43, .int .i64 vt50, .int .i64 vt57]) rfl rfl (by intro u_ hu_; simp only [List.mem_cons, List.not_mem_nil, or_false] at hu_; rcases hu_ with rfl | rfl | rfl | rfl <;> rfl) HS85 (Nat.le_of_ble_eq_true rfl) (by kernel_rfl) ?_)
   intro W86 HS87
   refine wpList_nil ?_
   refine hK84 _ _ ?_
   refine wp_ret ?_
   refine hret _ _ ?_
   refine ends (v := Value.agg #[.int .i64 vt36, .int .i64 vt43, .int .i64 vt50, .int .i64 vt57]) (results1 (q1 := .cell 2 63) (by kernel_rfl) (resN (n := 4) (cs := [.int .i64 vt36, .int .i64 vt43, .int .i64 vt50, .int .i64 vt57]) (by kernel_rfl : _ = Value.pointer (some ⟨b9, 0, none⟩)) Tryd.underlying63 rfl (by kernel_rfl) rfl (HS87.cells 0 4 _ rfl))) (by kernel_rfl) ?_
   have HS95 := HS87.u2
   have HS96 := HS95.u3
   have HS97 := HS96.u3
   have HS98 := HS97.u3
   have HS99 := HS98.drop
   have HS100 := HS99.drop
   have HS101 := HS100.drop
   injection h with h
   injection h with h0_ h
   subst h0_ h
   exact ⟨f60, rfl, (L26.trans (L40.trans (L47.trans (L54.trans L61)))), HS101⟩

end Go.Sp.B1
