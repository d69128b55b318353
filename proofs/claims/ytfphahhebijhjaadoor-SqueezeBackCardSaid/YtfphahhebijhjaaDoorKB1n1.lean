import Derived.Test.YtfphahhebijhjaaDoorProg
import Derived.Test.YtfphahhebijhjaaDoorSpCopy
import Derived.Test.YtfphahhebijhjaaDoorFB1
import Derived.Test.YtfphahhebijhjaaDoorSpStr
import Derived.Test.YtfphahhebijhjaaDoorConv
import Derived.Test.YtfphahhebijhjaaDoorSpRound
import Derived.Test.YtfphahhebijhjaaDoorKB1n0
namespace Go.Sp.B1
open Go Go.Sp Go.Proofs
set_option linter.unusedVariables false
attribute [local irreducible] wpList AnyL Code.wp Calls Does Code.wpIn wpListIn CallsIn bodyPostM LeavesInM
set_option maxRecDepth 100000 in
set_option maxHeartbeats 4000000 in
theorem spymake_Stream_Shot.calls (k : Nat) (b1 : Nat) (A4 : Option Addr) (c5 : Nat) (A8 : Option Addr) (c9 : Nat) (A11 : Option Addr) (c12 : Nat) (A14 : Option Addr) (c15 : Nat) (s3 : S_Stream) (c7 : S_Sensor) (kind17 : Int) (number18 : Int) {t w : World} {f : FM} {H : List Seg} (HS : St t w f ([(b1, .cells #[.slice A4 s3.L.length c5, .int .i64 s3.vat] 37 (0, 0))] :: H)) (HR6 : SlR (tInt .i64) f A4 c5 s3.L) (HR10 : SlR (tInt .i64) f A8 c9 c7.Bias) (HR13 : SlR (tInt .i64) f A11 c12 c7.Dark) (HR16 : SlR (tInt .i64) f A14 c15 c7.Flat) (rr1 : S_Shot) (rr2 : Int) (h : spymake_Stream_Shot k s3 c7 kind17 number18 = some (rr1, rr2)) :
    Calls Tryd.prog 22 #[.pointer (some ⟨b1, 0, none⟩), .agg #[.int .i64 c7.W, .int .i64 c7.H, .slice A8 c7.Bias.length c9, .slice A11 c7.Dark.length c12, .slice A14 c7.Flat.length c15, .int .i64 c7.Full, .int .i64 c7.Gain, .int .i64 c7.Noise], .int .i64 kind17, .int .i64 number18] w (fun e w' => ∃ (g : FM) (A337 : Option Addr) (c338 : Nat) (s339 : Seg), e = .returned (Value.agg #[.int .i64 rr1.Kind, .int .u64 rr1.Seed, .int .i64 rr1.Number, .int .i64 rr1.Begin, .int .i64 rr1.Beats, .int .i64 rr1.Plate.A, .int .i64 rr1.Plate.B, .int .i64 rr1.Plate.C, .int .i64 rr1.Plate.D, .int .i64 rr1.Seeing, .int .i64 rr1.DriftX, .int .i64 rr1.DriftY, .int .i64 rr1.Lamp, .slice A337 rr1.Hits.length c338]) ∧ FM.le f g ∧ St t w' g (s339 :: [(b1, .cells #[.slice A4 s3.L.length c5, .int .i64 rr2] 37 (0, 0))] :: H) ∧ Own ty_Hit 173 g A337 c338 s339 rr1.Hits) := by
 unfold spymake_Stream_Shot at h
 refine enter Tryd.func22 rfl (tm := #[pV b1 0, (ag_Sensor c7 A8 c9 A11 c12 A14 c15), iV kind17, iV number18, uV, uV, uV, uV, uV, uV, uV, uV, uV, uV, uV, uV, uV, uV, uV, uV, uV, uV, uV, uV, uV, uV, uV, uV, uV, uV, uV, uV, uV, uV, uV, uV, uV, uV, uV, uV, uV, uV, uV, uV, uV, uV, uV, uV, uV, uV, uV, uV, uV, uV, uV, uV, uV, uV, uV, uV, uV, uV, uV, uV, uV, uV, uV, uV, uV, uV]) (by kernel_rfl) ?_
 intro B hret hnor hnp
 refine wp_seq_k (fun K19 hK20 => ?_)
 refine wp_region_lit ?_
 refine seqK rfl (does_box (cs := #[.int .i64 c7.W, .int .i64 c7.H, .slice A8 c7.Bias.length c9, .slice A11 c7.Dark.length c12, .slice A14 c7.Flat.length c15, .int .i64 c7.Full, .int .i64 c7.Gain, .int .i64 c7.Noise]) rfl (by kernel_rfl : _ = Value.agg #[.int .i64 c7.W, .int .i64 c7.H, .slice A8 c7.Bias.length c9, .slice A11 c7.Dark.length c12, .slice A14 c7.Flat.length c15, .int .i64 c7.Full, .int .i64 c7.Gain, .int .i64 c7.Noise]) rfl HS ?_)
 intro b21 W22 HS23
 refine seqK rfl (does_alloc (z := Value.agg #[.int .i64 0, .int .u64 0, .int .i64 0, .int .i64 0, .int .i64 0, .int .i64 0, .int .i64 0, .int .i64 0, .int .i64 0, .int .i64 0, .int .i64 0, .int .i64 0, .int .i64 0, .slice none 0 0]) (cs := #[.int .i64 0, .int .u64 0, .int .i64 0, .int .i64 0, .int .i64 0, .int .i64 0, .int .i64 0, .int .i64 0, .int .i64 0, .int .i64 0, .int .i64 0, .int .i64 0, .int .i64 0, .slice none 0 0]) rfl (by kernel_rfl) rfl HS23 ?_)
 intro b25 W26 HS27
 refine wpList_nil ?_
 refine hK20 _ _ ?_
 refine wp_seq_k (fun K29 hK30 => ?_)
 refine wp_region_lit ?_
 have HS31 := HS27.u2
 have hq_ := bind_some h; clear h; obtain ⟨⟨vt32, vt33⟩, hc34, h⟩ := hq_
 refine seqL2 (by kernel_rfl) ?_
 refine seqK rfl (does_call (f := 23) (args := #[.pointer (some ⟨b1, 0, none⟩), .int .i64 1073741824]) (by kernel_rfl) (spymake_Stream_Next.calls k b1 A4 c5 s3 1073741824 HS31 HR6 vt32 vt33 hc34) ?_)
 rintro _ W37 ⟨f35, rfl, L36, HS38⟩
 refine ⟨_, rfl, ?_⟩
 have hq_ := bind_some h; clear h; obtain ⟨⟨vt39, vt40⟩, hc41, h⟩ := hq_
 refine seqL4 (by kernel_rfl) ?_
 refine seqK rfl (does_call (f := 24) (args := #[.pointer (some ⟨b1, 0, none⟩), .int .i64 (-3000), .int .i64 3000]) (by kernel_rfl) (spymake_Stream_Range.calls k b1 A4 c5 (⟨s3.L, vt33⟩ : S_Stream) (-3000) 3000 HS38 (HR6.mono L36) vt39 vt40 hc41) ?_)
 rintro _ W44 ⟨f42, rfl, L43, HS45⟩
 refine ⟨_, rfl, ?_⟩
 refine seqL1 (by kernel_rfl) ?_
 refine seqK rfl (does_alloc (z := Value.agg #[.int .i64 0, .int .u64 0, .int .i64 0, .int .i64 0, .int .i64 0, .int .i64 0, .int .i64 0, .int .i64 0, .int .i64 0, .int .i64 0, .int .i64 0, .int .i64 0, .int .i64 0, .slice none 0 0]) (cs := #[.int .i64 0, .int .u64 0, .int .i64 0, .int .i64 0, .int .i64 0, .int .i64 0, .int .i64 0, .int .i64 0, .int .i64 0, .int .i64 0, .int .i64 0, .int .i64 0, .int .i64 0, .slice none 0 0]) rfl (by kernel_rfl) rfl HS45 ?_)
 intro b46 W47 HS48
 refine seqK rfl (does_store (n := 14) (vs := [.int .i64 kind17, .int .u64 (u64 ((u64 (vt32)) * 11400714819323198485)), .int .i64 number18, .int .i64 vt39, .int .i64 0, .int .i64 0, .int .i64 0, .int .i64 0, .int .i64 0, .int .i64 0, .int .i64 0, .int .i64 0, .int .i64 0, .slice none 0 0]) (cs' := #[.int .i64 kind17, .int .u64 (u64 ((u64 (vt32)) * 11400714819323198485)), .int .i64 number18, .int .i64 vt39, .int .i64 0, .int .i64 0, .int .i64 0, .int .i64 0, .int .i64 0, .int .i64 0, .int .i64 0, .int .i64 0, .int .i64 0, .slice none 0 0]) rfl (by kernel_rfl) (by kernel_rfl : _ = Value.pointer (some ⟨b46, 0, none⟩)) (by kernel_rfl : _ = Value.agg #[.int .i64 kind17, .int .u64 (u64 ((u64 (vt32)) * 11400714819323198485)), .int .i64 number18, .int .i64 vt39, .int .i64 0, .int .i64 0, .int .i64 0, .int .i64 0, .int .i64 0, .int .i64 0, .int .i64 0, .int .i64 0, .int .i64 0, .slice none 0 0]) rfl rfl (by intro u_ hu_; simp only [List.mem_cons, List.not_mem_nil, or_false] at hu_; rcases hu_ with rfl | rfl | rfl | rfl | rfl | rfl | rfl | rfl | rfl | rfl | rfl | rfl | rfl | rfl <;> rfl) HS48 (Nat.le_of_ble_eq_true rfl) (by kernel_rfl) ?_)
 intro W50 HS51
 refine wpList_nil ?_
 refine hK30 _ _ ?_
 refine wp_seq_k (fun K52 hK53 => ?_)
 refine wp_seq_k (fun K54 hK55 => ?_)
 refine wp_region_lit ?_
 have HS56 := HS51.u1
 have hq_ := bind_some h; clear h; obtain ⟨⟨vt57, vt58⟩, hc59, h⟩ := hq_
 refine seqL1 (by kernel_rfl) ?_
 refine seqK rfl (does_call (f := 23) (args := #[.pointer (some ⟨b1, 0, none⟩), .int .i64 5]) (by kernel_rfl) (spymake_Stream_Next.calls k b1 A4 c5 (⟨s3.L, vt40⟩ : S_Stream) 5 HS56 (HR6.mono (L36.trans L43)) vt57 vt58 hc59) ?_)
 rintro _ W62 ⟨f60, rfl, L61, HS63⟩
 refine ⟨_, rfl, ?_⟩
 refine seqS1 (a' := ⟨#[pV b1 0, (ag_Sensor c7 A8 c9 A11 c12 A14 c15), iV kind17, iV number18, uV, pV b21 0, uV, uV, pV b25 0, pV b46 0, iV kind17, pV b1 0, iV vt32, .int .u64 (u64 (vt32)), .int .u64 (u64 ((u64 (vt32)) * 11400714819323198485)), iV number18, pV b1 0, iV vt39, .agg #[iV kind17, .int .u64 (u64 ((u64 (vt32)) * 11400714819323198485)), iV number18, iV vt39, iV 0, iV 0, iV 0, iV 0, iV 0, iV 0, iV 0, iV 0, iV 0, .slice none 0 0], pV b1 0, iV vt57, .bool (vt57 == 0), uV, uV, uV, uV, uV, uV, uV, uV, uV, uV, uV, uV, uV, uV, uV, uV, uV, uV, uV, uV, uV, uV, uV, uV, uV, uV, uV, uV, uV, uV, uV, uV, uV, uV, uV, uV, uV, uV, uV, uV, uV, uV, uV, uV, uV, uV, uV, uV], []⟩) (by kernel_rfl) ?_
 refine wpList_nil ?_
 refine hK55 _ _ ?_
 have hq_ := bind_some h; clear h; obtain ⟨v64, hv83, h⟩ := hq_
 have J84 : ∀ (f76 : FM) (x81 : Int) (x82 : Int) (j80 : Nat → Value) (W78 : World) (a_ : Act), FM.le f60 f76 → some ((x81, x82)) = some v64 → St t W78 f76 ([(b1, .cells #[.slice A4 s3.L.length c5, .int .i64 x81] 37 (0, 0))] :: [(b46, .cells #[.int .i64 kind17, .int .u64 (u64 ((u64 (vt32)) * 11400714819323198485)), .int .i64 number18, .int .i64 x82, .int .i64 0, .int .i64 0, .int .i64 0, .int .i64 0, .int .i64 0, .int .i64 0, .int .i64 0, .int .i64 0, .int .i64 0, .slice none 0 0] 67 (0, 0))] :: [(b25, .cells #[.int .i64 0, .int .u64 0, .int .i64 0, .int .i64 0, .int .i64 0, .int .i64 0, .int .i64 0, .int .i64 0, .int .i64 0, .int .i64 0, .int .i64 0, .int .i64 0, .int .i64 0, .slice none 0 0] 67 (0, 0))] :: [(b21, .cells #[.int .i64 c7.W, .int .i64 c7.H, .slice A8 c7.Bias.length c9, .slice A11 c7.Dark.length c12, .slice A14 c7.Flat.length c15, .int .i64 c7.Full, .int .i64 c7.Gain, .int .i64 c7.Noise] 56 (0, 0))] :: H) → a_ = ⟨#[pV b1 0, (ag_Sensor c7 A8 c9 A11 c12 A14 c15), iV kind17, iV number18, uV, pV b21 0, uV, uV, pV b25 0, pV b46 0, iV kind17, pV b1 0, iV vt32, .int .u64 (u64 (vt32)), .int .u64 (u64 ((u64 (vt32)) * 11400714819323198485)), iV number18, pV b1 0, iV vt39, .agg #[iV kind17, .int .u64 (u64 ((u64 (vt32)) * 11400714819323198485)), iV number18, iV vt39, iV 0, iV 0, iV 0, iV 0, iV 0, iV 0, iV 0, iV 0, iV 0, .slice none 0 0], pV b1 0, iV vt57, .bool (vt57 == 0), (j80 0), (j80 1), (j80 2), (j80 3), uV, uV, uV, uV, uV, uV, uV, uV, uV, uV, uV, uV, uV, uV, uV, uV, uV, uV, uV, uV, uV, uV, uV, uV, uV, uV, uV, uV, uV, uV, uV, uV, uV, uV, uV, uV, uV, uV, uV, uV, uV, uV, uV, uV], []⟩ → K52 a_ W78 := by
  intro f76 x81 x82 j80 W78 a_ L77 hj85 HS79  hfr_; subst hfr_
  injection hj85 with hj85; subst hj85; try dsimp only at h
  refine hK53 _ _ ?_
  refine wp_seq_k (fun K90 hK91 => ?_)
  refine wp_seq_k (fun K92 hK93 => ?_)
  refine wp_region_lit ?_
  refine seqS2 (a' := ⟨#[pV b1 0, (ag_Sensor c7 A8 c9 A11 c12 A14 c15), iV kind17, iV number18, uV, pV b21 0, uV, uV, pV b25 0, pV b46 0, iV kind17, pV b1 0, iV vt32, .int .u64 (u64 (vt32)), .int .u64 (u64 ((u64 (vt32)) * 11400714819323198485)), iV number18, pV b1 0, iV vt39, .agg #[iV kind17, .int .u64 (u64 ((u64 (vt32)) * 11400714819323198485)), iV number18, iV vt39, iV 0, iV 0, iV 0, iV 0, iV 0, iV 0, iV 0, iV 0, iV 0, .slice none 0 0], pV b1 0, iV vt57, .bool (vt57 == 0), (j80 0), (j80 1), (j80 2), (j80 3), iV kind17, .bool (kind17 != 0), uV, uV, uV, uV, uV, uV, uV, uV, uV, uV, uV, uV, uV, uV, uV, uV, uV, uV, uV, uV, uV, uV, uV, uV, uV, uV, uV, uV, uV, uV, uV, uV, uV, uV, uV, uV, uV, uV, uV, uV, uV, uV], []⟩) (by kernel_rfl) ?_
  refine wpList_nil ?_
  refine hK93 _ _ ?_
  have hq_ := bind_some h; clear h; obtain ⟨v94, hv132, h⟩ := hq_
  have J133 : ∀ (f125 : FM) (x130 : Int) (x131 : Int) (j129 : Nat → Value) (W127 : World) (a_ : Act), FM.le f76 f125 → some ((x130, x131)) = some v94 → St t W127 f125 ([(b1, .cells #[.slice A4 s3.L.length c5, .int .i64 x130] 37 (0, 0))] :: [(b46, .cells #[.int .i64 kind17, .int .u64 (u64 ((u64 (vt32)) * 11400714819323198485)), .int .i64 number18, .int .i64 x82, .int .i64 x131, .int .i64 0, .int .i64 0, .int .i64 0, .int .i64 0, .int .i64 0, .int .i64 0, .int .i64 0, .int .i64 0, .slice none 0 0] 67 (0, 0))] :: [(b25, .cells #[.int .i64 0, .int .u64 0, .int .i64 0, .int .i64 0, .int .i64 0, .int .i64 0, .int .i64 0, .int .i64 0, .int .i64 0, .int .i64 0, .int .i64 0, .int .i64 0, .int .i64 0, .slice none 0 0] 67 (0, 0))] :: [(b21, .cells #[.int .i64 c7.W, .int .i64 c7.H, .slice A8 c7.Bias.length c9, .slice A11 c7.Dark.length c12, .slice A14 c7.Flat.length c15, .int .i64 c7.Full, .int .i64 c7.Gain, .int .i64 c7.Noise] 56 (0, 0))] :: H) → a_ = ⟨#[pV b1 0, (ag_Sensor c7 A8 c9 A11 c12 A14 c15), iV kind17, iV number18, uV, pV b21 0, uV, uV, pV b25 0, pV b46 0, iV kind17, pV b1 0, iV vt32, .int .u64 (u64 (vt32)), .int .u64 (u64 ((u64 (vt32)) * 11400714819323198485)), iV number18, pV b1 0, iV vt39, .agg #[iV kind17, .int .u64 (u64 ((u64 (vt32)) * 11400714819323198485)), iV number18, iV vt39, iV 0, iV 0, iV 0, iV 0, iV 0, iV 0, iV 0, iV 0, iV 0, .slice none 0 0], pV b1 0, iV vt57, .bool (vt57 == 0), (j80 0), (j80 1), (j80 2), (j80 3), iV kind17, .bool (kind17 != 0), (j129 0), (j129 1), (j129 2), (j129 3), (j129 4), (j129 5), (j129 6), (j129 7), uV, uV, uV, uV, uV, uV, uV, uV, uV, uV, uV, uV, uV, uV, uV, uV, uV, uV, uV, uV, uV, uV, uV, uV, uV, uV, uV, uV, uV, uV, uV, uV, uV, uV], []⟩ → K90 a_ W127 := by
   intro f125 x130 x131 j129 W127 a_ L126 hj134 HS128  hfr_; subst hfr_
   injection hj134 with hj134; subst hj134; try dsimp only at h
   refine hK91 _ _ ?_
   refine wp_seq_k (fun K141 hK142 => ?_)
   refine wp_seq_k (fun K143 hK144 => ?_)
   refine wp_region_lit ?_
   refine seqS1 (a' := ⟨#[pV b1 0, (ag_Sensor c7 A8 c9 A11 c12 A14 c15), iV kind17, iV number18, uV, pV b21 0, uV, uV, pV b25 0, pV b46 0, iV kind17, pV b1 0, iV vt32, .int .u64 (u64 (vt32)), .int .u64 (u64 ((u64 (vt32)) * 11400714819323198485)), iV number18, pV b1 0, iV vt39, .agg #[iV kind17, .int .u64 (u64 ((u64 (vt32)) * 11400714819323198485)), iV number18, iV vt39, iV 0, iV 0, iV 0, iV 0, iV 0, iV 0, iV 0, iV 0, iV 0, .slice none 0 0], pV b1 0, iV vt57, .bool (vt57 == 0), (j80 0), (j80 1), (j80 2), (j80 3), iV kind17, .bool (kind17 != 0), (j129 0), (j129 1), (j129 2), (j129 3), (j129 4), (j129 5), (j129 6), (j129 7), iV kind17, uV, uV, uV, uV, uV, uV, uV, uV, uV, uV, uV, uV, uV, uV, uV, uV, uV, uV, uV, uV, uV, uV, uV, uV, uV, uV, uV, uV, uV, uV, uV, uV, uV], []⟩) (by kernel_rfl) ?_
   refine wpList_nil ?_
   refine hK144 _ _ ?_
   refine blockK (fun B145 hx146 hn147 hr148 ho149 hp150 => ?_)
   refine wp_seq_k (fun K152 hK153 => ?_)
   refine wp_region_lit ?_
   refine seqS2 (a' := ⟨#[pV b1 0, (ag_Sensor c7 A8 c9 A11 c12 A14 c15), iV kind17, iV number18, uV, pV b21 0, uV, uV, pV b25 0, pV b46 0, iV kind17, pV b1 0, iV vt32, .int .u64 (u64 (vt32)), .int .u64 (u64 ((u64 (vt32)) * 11400714819323198485)), iV number18, pV b1 0, iV vt39, .agg #[iV kind17, .int .u64 (u64 ((u64 (vt32)) * 11400714819323198485)), iV number18, iV vt39, iV 0, iV 0, iV 0, iV 0, iV 0, iV 0, iV 0, iV 0, iV 0, .slice none 0 0], pV b1 0, iV vt57, .bool (vt57 == 0), (j80 0), (j80 1), (j80 2), (j80 3), iV kind17, .bool (kind17 != 0), (j129 0), (j129 1), (j129 2), (j129 3), (j129 4), (j129 5), (j129 6), (j129 7), iV kind17, .bool (kind17 == 2), .bool (kind17 == 2), uV, uV, uV, uV, uV, uV, uV, uV, uV, uV, uV, uV, uV, uV, uV, uV, uV, uV, uV, uV, uV, uV, uV, uV, uV, uV, uV, uV, uV, uV, uV], []⟩) (by kernel_rfl) ?_
   refine wpList_nil ?_
   refine hK153 _ _ ?_
   have hq_ := ite_some h; clear h; rcases hq_ with ⟨c155, h⟩ | ⟨c155, h⟩
   · have c155 : kind17 = 2 := c155
     refine wpRwI 37 (x := (kind17 == 2)) (v := true) (by kernel_rfl) (beq_iff_eq.mpr c155) ?_
     refine wpRwI 38 (x := (kind17 == 2)) (v := true) (by kernel_rfl) (beq_iff_eq.mpr c155) ?_
     refine condT (by kernel_rfl) ?_
     refine wp_region_lit ?_
     refine seqL1 (by kernel_rfl) ?_
     refine seqK rfl (does_lit (e := (tInt .i64)) (E := 3) (vs := #[(0, Value.int .i64 100), (1, Value.int .i64 3000), (2, Value.int .i64 40000)]) (cs := #[.int .i64 100, .int .i64 3000, .int .i64 40000]) (xs := ([100, 3000, 40000] : List Int)) rfl Tryd.underlying27 (by kernel_rfl) (by kernel_rfl) ⟨[.int .i64 100], _, rfl, rfl, ⟨[.int .i64 3000], _, rfl, rfl, ⟨[.int .i64 40000], _, rfl, rfl, rfl⟩⟩⟩ rfl HS128 ?_ (by decide))
     intro b156 W157 s158 HS159 _ HO160
     have HS162 := HS159.u1
     have hq_ := bind_some h; clear h; obtain ⟨⟨vt163, vt164⟩, hc165, h⟩ := hq_
     refine seqL1 (by kernel_rfl) ?_
     refine seqK rfl (does_call (f := 23) (args := #[.pointer (some ⟨b1, 0, none⟩), .int .i64 3]) (by kernel_rfl) (spymake_Stream_Next.calls k b1 A4 c5 (⟨s3.L, x130⟩ : S_Stream) 3 HS162 (HR6.mono (L36.trans (L43.trans (L61.trans (L77.trans L126))))) vt163 vt164 hc165) ?_)
     rintro _ W168 ⟨f166, rfl, L167, HS169⟩
     refine ⟨_, rfl, ?_⟩
     have hq_ := guard_some h; clear h; obtain ⟨c170, h⟩ := hq_
     have c170 : 0 ≤ vt163 := c170
     have hq_ := guard_some h; clear h; obtain ⟨c171, h⟩ := hq_
     have c171 : vt163 < (([100, 3000, 40000] : List Int).length : Int) := c171
     obtain ⟨cs172, hr173, hc174⟩ := (HO160.mono L167).at' (i := vt163) c170 c171
     obtain rfl := hr173
     refine seqK rfl (does_run (run_index (sz := 1) rfl Tryd.underlying27 (by kernel_rfl) (by kernel_rfl : _ = Value.slice (some ⟨b156, 0, none⟩) ([100, 3000, 40000] : List Int).length 3) (by kernel_rfl : _ = Value.int .i64 vt163) c170 c171 W168) ?_)
     refine seqK rfl (does_run (run_load rfl Tryd.underlying3 rfl (by kernel_rfl : _ = Value.pointer (some ⟨b156, 0 + (vt163 : Int).toNat * 1, none⟩)) ((hc174 HS169.u1) 0 (by decide))) ?_)
     have hq_ := bind_some h; clear h; obtain ⟨⟨vt175, vt176⟩, hc177, h⟩ := hq_
     refine seqK rfl (does_call (f := 24) (args := #[.pointer (some ⟨b1, 0, none⟩), .int .i64 1, .int .i64 (rd ([100, 3000, 40000] : List Int) vt163)]) (by kernel_rfl) (spymake_Stream_Range.calls k b1 A4 c5 (⟨s3.L, vt164⟩ : S_Stream) 1 (rd ([100, 3000, 40000] : List Int) vt163) HS169 (HR6.mono (L36.trans (L43.trans (L61.trans (L77.trans (L126.trans L167)))))) vt175 vt176 hc177) ?_)
     rintro _ W180 ⟨f178, rfl, L179, HS181⟩
     refine ⟨_, rfl, ?_⟩
     have HS182 := HS181.u2
     refine seqL1 (by kernel_rfl) ?_
     refine seqK rfl (does_store (n := 1) (vs := [.int .i64 vt175]) (cs' := #[.int .i64 kind17, .int .u64 (u64 ((u64 (vt32)) * 11400714819323198485)), .int .i64 number18, .int .i64 x82, .int .i64 x131, .int .i64 0, .int .i64 0, .int .i64 0, .int .i64 0, .int .i64 0, .int .i64 0, .int .i64 0, .int .i64 vt175, .slice none 0 0]) rfl (by kernel_rfl) (by kernel_rfl : _ = Value.pointer (some ⟨b46, 12, none⟩)) (by kernel_rfl : _ = Value.int .i64 vt175) rfl rfl (by intro u_ hu_; simp only [List.mem_cons, List.not_mem_nil, or_false] at hu_; subst hu_; rfl) HS182 (Nat.le_of_ble_eq_true rfl) (by kernel_rfl) ?_)
     intro W183 HS184
     refine wpList_nil ?_
     refine hn147 _ _ ?_
     refine hK142 _ _ ?_
     refine wp_seq_k (fun K275 hK276 => ?_)
     refine wp_region_lit ?_
     refine seqK rfl (does_run (run_loadN (n := 14) rfl Tryd.underlying67 rfl (by kernel_rfl) (by kernel_rfl : _ = Value.pointer (some ⟨b46, 0, none⟩)) (cs := [.int .i64 kind17, .int .u64 (u64 ((u64 (vt32)) * 11400714819323198485)), .int .i64 number18, .int .i64 x82, .int .i64 x131, .int .i64 0, .int .i64 0, .int .i64 0, .int .i64 0, .int .i64 0, .int .i64 0, .int .i64 0, .int .i64 vt175, .slice none 0 0]) rfl (HS184.cells 0 14 _ rfl)) ?_)
     have HS277 := HS184.u3
     refine seqK rfl (does_store (n := 14) (vs := [.int .i64 kind17, .int .u64 (u64 ((u64 (vt32)) * 11400714819323198485)), .int .i64 number18, .int .i64 x82, .int .i64 x131, .int .i64 0, .int .i64 0, .int .i64 0, .int .i64 0, .int .i64 0, .int .i64 0, .int .i64 0, .int .i64 vt175, .slice none 0 0]) (cs' := #[.int .i64 kind17, .int .u64 (u64 ((u64 (vt32)) * 11400714819323198485)), .int .i64 number18, .int .i64 x82, .int .i64 x131, .int .i64 0, .int .i64 0, .int .i64 0, .int .i64 0, .int .i64 0, .int .i64 0, .int .i64 0, .int .i64 vt175, .slice none 0 0]) rfl (by kernel_rfl) (by kernel_rfl : _ = Value.pointer (some ⟨b25, 0, none⟩)) (by kernel_rfl : _ = Value.agg #[.int .i64 kind17, .int .u64 (u64 ((u64 (vt32)) * 11400714819323198485)), .int .i64 number18, .int .i64 x82, .int .i64 x131, .int .i64 0, .int .i64 0, .int .i64 0, .int .i64 0, .int .i64 0, .int .i64 0, .int .i64 0, .int .i64 vt175, .slice none 0 0]) rfl rfl (by intro u_ hu_; simp only [List.mem_cons, List.not_mem_nil, or_false] at hu_; rcases hu_ with rfl | rfl | rfl | rfl | rfl | rfl | rfl | rfl | rfl | rfl | rfl | rfl | rfl | rfl <;> rfl) HS277 (Nat.le_of_ble_eq_true rfl) (by kernel_rfl) ?_)
     intro W278 HS279
     refine wpList_nil ?_
     refine hK276 _ _ ?_
     refine wp_ret ?_
     refine hret _ _ ?_
     have HS295 := HS279.cons_nil
     refine ends (v := Value.agg #[.int .i64 kind17, .int .u64 (u64 ((u64 (vt32)) * 11400714819323198485)), .int .i64 number18, .int .i64 x82, .int .i64 x131, .int .i64 0, .int .i64 0, .int .i64 0, .int .i64 0, .int .i64 0, .int .i64 0, .int .i64 0, .int .i64 vt175, .slice none 0 0]) (results1 (q1 := .cell 8 67) (by kernel_rfl) (resN (n := 14) (cs := [.int .i64 kind17, .int .u64 (u64 ((u64 (vt32)) * 11400714819323198485)), .int .i64 number18, .int .i64 x82, .int .i64 x131, .int .i64 0, .int .i64 0, .int .i64 0, .int .i64 0, .int .i64 0, .int .i64 0, .int .i64 0, .int .i64 vt175, .slice none 0 0]) (by kernel_rfl : _ = Value.pointer (some ⟨b25, 0, none⟩)) Tryd.underlying67 rfl (by kernel_rfl) rfl (HS295.u1.cells 0 14 _ rfl))) (by kernel_rfl) ?_
     have HS297 := HS295.u3
     have HS298 := HS297.u1
     have HS299 := HS298.u5
     have HS300 := HS299.u5
     have HS301 := HS300.u5
     have HS302 := HS301.u5
     have HS303 := HS302.drop
     have HS304 := HS303.drop
     have HS305 := HS304.drop
     have HS306 := HS305.drop
     injection h with h
     injection h with h0_ h
     subst h0_ h
     exact ⟨f178, none, 0, [], rfl, (L36.trans (L43.trans (L61.trans (L77.trans (L126.trans (L167.trans L179)))))), HS306, (Own.nil _)⟩
   · have c155 : ¬ (kind17 = 2) := c155
     refine wpRwI 37 (x := (kind17 == 2)) (v := false) (by kernel_rfl) (beq_eq_false_iff_ne.mpr c155) ?_
     refine wpRwI 38 (x := (kind17 == 2)) (v := false) (by kernel_rfl) (beq_eq_false_iff_ne.mpr c155) ?_
     refine condF (by kernel_rfl) ?_
     refine wp_seq_k (fun K185 hK186 => ?_)
     refine wp_region_lit ?_
     refine seqS2 (a' := ⟨#[pV b1 0, (ag_Sensor c7 A8 c9 A11 c12 A14 c15), iV kind17, iV number18, uV, pV b21 0, uV, uV, pV b25 0, pV b46 0, iV kind17, pV b1 0, iV vt32, .int .u64 (u64 (vt32)), .int .u64 (u64 ((u64 (vt32)) * 11400714819323198485)), iV number18, pV b1 0, iV vt39, .agg #[iV kind17, .int .u64 (u64 ((u64 (vt32)) * 11400714819323198485)), iV number18, iV vt39, iV 0, iV 0, iV 0, iV 0, iV 0, iV 0, iV 0, iV 0, iV 0, .slice none 0 0], pV b1 0, iV vt57, .bool (vt57 == 0), (j80 0), (j80 1), (j80 2), (j80 3), iV kind17, .bool (kind17 != 0), (j129 0), (j129 1), (j129 2), (j129 3), (j129 4), (j129 5), (j129 6), (j129 7), iV kind17, fV, fV, uV, uV, uV, uV, uV, uV, uV, uV, .bool (kind17 == 3), .bool (kind17 == 3), uV, uV, uV, uV, uV, uV, uV, uV, uV, uV, uV, uV, uV, uV, uV, uV, uV, uV, uV, uV, uV], []⟩) (by kernel_rfl) ?_
     refine wpList_nil ?_
     refine hK186 _ _ ?_
     have hq_ := ite_some h; clear h; rcases hq_ with ⟨c188, h⟩ | ⟨c188, h⟩
     · have c188 : kind17 = 3 := c188
       refine wpRwI 47 (x := (kind17 == 3)) (v := true) (by kernel_rfl) (beq_iff_eq.mpr c188) ?_
       refine wpRwI 48 (x := (kind17 == 3)) (v := true) (by kernel_rfl) (beq_iff_eq.mpr c188) ?_
       refine condT (by kernel_rfl) ?_
       refine wp_seq_k (fun K189 hK190 => ?_)
       refine wp_region_lit ?_
       have hq_ := bind_some h; clear h; obtain ⟨⟨vt191, vt192⟩, hc193, h⟩ := hq_
       refine seqL1 (by kernel_rfl) ?_
       refine seqK rfl (does_call (f := 38) (args := #[.pointer (some ⟨b1, 0, none⟩)]) (by kernel_rfl) (spymake_Stream_Plate.calls k b1 A4 c5 (⟨s3.L, x130⟩ : S_Stream) HS128 (HR6.mono (L36.trans (L43.trans (L61.trans (L77.trans L126))))) vt191 vt192 hc193) ?_)
       rintro _ W196 ⟨f194, rfl, L195, HS197⟩
       refine ⟨_, rfl, ?_⟩
       have HS198 := HS197.u1
       refine seqL1 (by kernel_rfl) ?_
       refine seqK rfl (does_store (n := 4) (vs := [.int .i64 vt191.A, .int .i64 vt191.B, .int .i64 vt191.C, .int .i64 vt191.D]) (cs' := #[.int .i64 kind17, .int .u64 (u64 ((u64 (vt32)) * 11400714819323198485)), .int .i64 number18, .int .i64 x82, .int .i64 x131, .int .i64 vt191.A, .int .i64 vt191.B, .int .i64 vt191.C, .int .i64 vt191.D, .int .i64 0, .int .i64 0, .int .i64 0, .int .i64 0, .slice none 0 0]) rfl (by kernel_rfl) (by kernel_rfl : _ = Value.pointer (some ⟨b46, 5, none⟩)) (by kernel_rfl : _ = Value.agg #[.int .i64 vt191.A, .int .i64 vt191.B, .int .i64 vt191.C, .int .i64 vt191.D]) rfl rfl (by intro u_ hu_; simp only [List.mem_cons, List.not_mem_nil, or_false] at hu_; rcases hu_ with rfl | rfl | rfl | rfl <;> rfl) HS198 (Nat.le_of_ble_eq_true rfl) (by kernel_rfl) ?_)
       intro W199 HS200
       refine wpList_nil ?_
       refine hK190 _ _ ?_
       refine wp_seq_k (fun K201 hK202 => ?_)
       refine wp_region_lit ?_
       have HS203 := HS200.u1
       have hq_ := bind_some h; clear h; obtain ⟨⟨vt204, vt205⟩, hc206, h⟩ := hq_
       refine seqL1 (by kernel_rfl) ?_
       refine seqK rfl (does_call (f := 23) (args := #[.pointer (some ⟨b1, 0, none⟩), .int .i64 2]) (by kernel_rfl) (spymake_Stream_Next.calls k b1 A4 c5 (⟨s3.L, vt192⟩ : S_Stream) 2 HS203 (HR6.mono (L36.trans (L43.trans (L61.trans (L77.trans (L126.trans L195)))))) vt204 vt205 hc206) ?_)
       rintro _ W209 ⟨f207, rfl, L208, HS210⟩
       refine ⟨_, rfl, ?_⟩
       have hq_ := guard_some h; clear h; obtain ⟨c211, h⟩ := hq_
       have c211 : ¬ (vt204 < 0) := c211
       refine seqK rfl (does_run (run_shl rfl (by kernel_rfl : _ = Value.int .i64 1) (by kernel_rfl : _ = Value.int .i64 vt204) c211 W209) ?_)
       have HS212 := HS210.u1
       refine seqL1 (by kernel_rfl) ?_
       refine seqK rfl (does_store (n := 1) (vs := [.int .i64 (w64 (1 * 2 ^ (min (vt204).toNat 64)))]) (cs' := #[.int .i64 kind17, .int .u64 (u64 ((u64 (vt32)) * 11400714819323198485)), .int .i64 number18, .int .i64 x82, .int .i64 x131, .int .i64 vt191.A, .int .i64 vt191.B, .int .i64 vt191.C, .int .i64 vt191.D, .int .i64 (w64 (1 * 2 ^ (min (vt204).toNat 64))), .int .i64 0, .int .i64 0, .int .i64 0, .slice none 0 0]) rfl (by kernel_rfl) (by kernel_rfl : _ = Value.pointer (some ⟨b46, 9, none⟩)) (by kernel_rfl : _ = Value.int .i64 (w64 (1 * 2 ^ (min (vt204).toNat 64)))) rfl rfl (by intro u_ hu_; simp only [List.mem_cons, List.not_mem_nil, or_false] at hu_; subst hu_; rfl) HS212 (Nat.le_of_ble_eq_true rfl) (by kernel_rfl) ?_)
       intro W213 HS214
       refine wpList_nil ?_
       refine hK202 _ _ ?_
       refine wp_seq_k (fun K215 hK216 => ?_)
       refine wp_seq_k (fun K217 hK218 => ?_)
       refine wp_region_lit ?_
       have HS219 := HS214.u1
       have hq_ := bind_some h; clear h; obtain ⟨⟨vt220, vt221⟩, hc222, h⟩ := hq_
       refine seqL1 (by kernel_rfl) ?_
       refine seqK rfl (does_call (f := 23) (args := #[.pointer (some ⟨b1, 0, none⟩), .int .i64 6]) (by kernel_rfl) (spymake_Stream_Next.calls k b1 A4 c5 (⟨s3.L, vt205⟩ : S_Stream) 6 HS219 (HR6.mono (L36.trans (L43.trans (L61.trans (L77.trans (L126.trans (L195.trans L208))))))) vt220 vt221 hc222) ?_)
       rintro _ W225 ⟨f223, rfl, L224, HS226⟩
       refine ⟨_, rfl, ?_⟩
       refine seqS1 (a' := ⟨#[pV b1 0, (ag_Sensor c7 A8 c9 A11 c12 A14 c15), iV kind17, iV number18, uV, pV b21 0, uV, uV, pV b25 0, pV b46 0, iV kind17, pV b1 0, iV vt32, .int .u64 (u64 (vt32)), .int .u64 (u64 ((u64 (vt32)) * 11400714819323198485)), iV number18, pV b1 0, iV vt39, .agg #[iV kind17, .int .u64 (u64 ((u64 (vt32)) * 11400714819323198485)), iV number18, iV vt39, iV 0, iV 0, iV 0, iV 0, iV 0, iV 0, iV 0, iV 0, iV 0, .slice none 0 0], pV b1 0, iV vt57, .bool (vt57 == 0), (j80 0), (j80 1), (j80 2), (j80 3), iV kind17, .bool (kind17 != 0), (j129 0), (j129 1), (j129 2), (j129 3), (j129 4), (j129 5), (j129 6), (j129 7), iV kind17, fV, fV, uV, uV, uV, uV, uV, uV, uV, uV, tV, tV, pV b1 0, (ag_Plate vt191), pV b46 5, pV b1 0, iV vt204, iV (w64 (1 * 2 ^ (min (vt204).toNat 64))), pV b46 9, pV b1 0, iV vt220, .bool (vt220 == 0), uV, uV, uV, uV, uV, uV, uV, uV, uV, uV, uV], []⟩) (by kernel_rfl) ?_
       refine wpList_nil ?_
       refine hK218 _ _ ?_
       have hq_ := bind_some h; clear h; obtain ⟨v227, hv238, h⟩ := hq_
       have J239 : ∀ (f232 : FM) (x237 : Int) (j236 : Nat → Value) (W234 : World) (a_ : Act), FM.le f223 f232 → some (x237) = some v227 → St t W234 f232 ([(b1, .cells #[.slice A4 s3.L.length c5, .int .i64 vt221] 37 (0, 0))] :: [(b46, .cells #[.int .i64 kind17, .int .u64 (u64 ((u64 (vt32)) * 11400714819323198485)), .int .i64 number18, .int .i64 x82, .int .i64 x131, .int .i64 vt191.A, .int .i64 vt191.B, .int .i64 vt191.C, .int .i64 vt191.D, .int .i64 x237, .int .i64 0, .int .i64 0, .int .i64 0, .slice none 0 0] 67 (0, 0))] :: [(b25, .cells #[.int .i64 0, .int .u64 0, .int .i64 0, .int .i64 0, .int .i64 0, .int .i64 0, .int .i64 0, .int .i64 0, .int .i64 0, .int .i64 0, .int .i64 0, .int .i64 0, .int .i64 0, .slice none 0 0] 67 (0, 0))] :: [(b21, .cells #[.int .i64 c7.W, .int .i64 c7.H, .slice A8 c7.Bias.length c9, .slice A11 c7.Dark.length c12, .slice A14 c7.Flat.length c15, .int .i64 c7.Full, .int .i64 c7.Gain, .int .i64 c7.Noise] 56 (0, 0))] :: H) → a_ = ⟨#[pV b1 0, (ag_Sensor c7 A8 c9 A11 c12 A14 c15), iV kind17, iV number18, uV, pV b21 0, uV, uV, pV b25 0, pV b46 0, iV kind17, pV b1 0, iV vt32, .int .u64 (u64 (vt32)), .int .u64 (u64 ((u64 (vt32)) * 11400714819323198485)), iV number18, pV b1 0, iV vt39, .agg #[iV kind17, .int .u64 (u64 ((u64 (vt32)) * 11400714819323198485)), iV number18, iV vt39, iV 0, iV 0, iV 0, iV 0, iV 0, iV 0, iV 0, iV 0, iV 0, .slice none 0 0], pV b1 0, iV vt57, .bool (vt57 == 0), (j80 0), (j80 1), (j80 2), (j80 3), iV kind17, .bool (kind17 != 0), (j129 0), (j129 1), (j129 2), (j129 3), (j129 4), (j129 5), (j129 6), (j129 7), iV kind17, fV, fV, uV, uV, uV, uV, uV, uV, uV, uV, tV, tV, pV b1 0, (ag_Plate vt191), pV b46 5, pV b1 0, iV vt204, iV (w64 (1 * 2 ^ (min (vt204).toNat 64))), pV b46 9, pV b1 0, iV vt220, .bool (vt220 == 0), (j236 0), uV, uV, uV, uV, uV, uV, uV, uV, uV, uV], []⟩ → K215 a_ W234 := by
        intro f232 x237 j236 W234 a_ L233 hj240 HS235  hfr_; subst hfr_
        injection hj240 with hj240; subst hj240; try dsimp only at h
        refine hK216 _ _ ?_
        refine wp_seq_k (fun K245 hK246 => ?_)
        refine wp_region_lit ?_
        have hq_ := bind_some h; clear h; obtain ⟨⟨vt247, vt248⟩, hc249, h⟩ := hq_
        refine seqL1 (by kernel_rfl) ?_
        refine seqK rfl (does_call (f := 23) (args := #[.pointer (some ⟨b1, 0, none⟩), .int .i64 3]) (by kernel_rfl) (spymake_Stream_Next.calls k b1 A4 c5 (⟨s3.L, vt221⟩ : S_Stream) 3 HS235 (HR6.mono (L36.trans (L43.trans (L61.trans (L77.trans (L126.trans (L195.trans (L208.trans (L224.trans L233))))))))) vt247 vt248 hc249) ?_)
        rintro _ W252 ⟨f250, rfl, L251, HS253⟩
        refine ⟨_, rfl, ?_⟩
        refine seqS1 (a' := ⟨#[pV b1 0, (ag_Sensor c7 A8 c9 A11 c12 A14 c15), iV kind17, iV number18, uV, pV b21 0, uV, uV, pV b25 0, pV b46 0, iV kind17, pV b1 0, iV vt32, .int .u64 (u64 (vt32)), .int .u64 (u64 ((u64 (vt32)) * 11400714819323198485)), iV number18, pV b1 0, iV vt39, .agg #[iV kind17, .int .u64 (u64 ((u64 (vt32)) * 11400714819323198485)), iV number18, iV vt39, iV 0, iV 0, iV 0, iV 0, iV 0, iV 0, iV 0, iV 0, iV 0, .slice none 0 0], pV b1 0, iV vt57, .bool (vt57 == 0), (j80 0), (j80 1), (j80 2), (j80 3), iV kind17, .bool (kind17 != 0), (j129 0), (j129 1), (j129 2), (j129 3), (j129 4), (j129 5), (j129 6), (j129 7), iV kind17, fV, fV, uV, uV, uV, uV, uV, uV, uV, uV, tV, tV, pV b1 0, (ag_Plate vt191), pV b46 5, pV b1 0, iV vt204, iV (w64 (1 * 2 ^ (min (vt204).toNat 64))), pV b46 9, pV b1 0, iV vt220, .bool (vt220 == 0), (j236 0), pV b1 0, iV vt247, .bool (vt247 == 0), uV, uV, uV, uV, uV, uV, uV], []⟩) (by kernel_rfl) ?_
        refine wpList_nil ?_
        refine hK246 _ _ ?_
        have hq_ := ite_some h; clear h; rcases hq_ with ⟨c255, h⟩ | ⟨c255, h⟩
        · have c255 : vt247 = 0 := c255
          refine wpRwI 62 (x := (vt247 == 0)) (v := true) (by kernel_rfl) (beq_iff_eq.mpr c255) ?_
          refine condT (by kernel_rfl) ?_
          refine wp_region_lit ?_
          have hq_ := bind_some h; clear h; obtain ⟨⟨vt256, vt257⟩, hc258, h⟩ := hq_
          refine seqL1 (by kernel_rfl) ?_
          refine seqK rfl (does_call (f := 24) (args := #[.pointer (some ⟨b1, 0, none⟩), .int .i64 (-64), .int .i64 64]) (by kernel_rfl) (spymake_Stream_Range.calls k b1 A4 c5 (⟨s3.L, vt248⟩ : S_Stream) (-64) 64 HS253 (HR6.mono (L36.trans (L43.trans (L61.trans (L77.trans (L126.trans (L195.trans (L208.trans (L224.trans (L233.trans L251)))))))))) vt256 vt257 hc258) ?_)
          rintro _ W261 ⟨f259, rfl, L260, HS262⟩
          refine ⟨_, rfl, ?_⟩
          have hq_ := bind_some h; clear h; obtain ⟨⟨vt263, vt264⟩, hc265, h⟩ := hq_
          refine seqL1 (by kernel_rfl) ?_
          refine seqK rfl (does_call (f := 24) (args := #[.pointer (some ⟨b1, 0, none⟩), .int .i64 (-64), .int .i64 64]) (by kernel_rfl) (spymake_Stream_Range.calls k b1 A4 c5 (⟨s3.L, vt257⟩ : S_Stream) (-64) 64 HS262 (HR6.mono (L36.trans (L43.trans (L61.trans (L77.trans (L126.trans (L195.trans (L208.trans (L224.trans (L233.trans (L251.trans L260))))))))))) vt263 vt264 hc265) ?_)
          rintro _ W268 ⟨f266, rfl, L267, HS269⟩
          refine ⟨_, rfl, ?_⟩
          have HS270 := HS269.u1
          refine seqL1 (by kernel_rfl) ?_
          refine seqK rfl (does_store (n := 1) (vs := [.int .i64 vt256]) (cs' := #[.int .i64 kind17, .int .u64 (u64 ((u64 (vt32)) * 11400714819323198485)), .int .i64 number18, .int .i64 x82, .int .i64 x131, .int .i64 vt191.A, .int .i64 vt191.B, .int .i64 vt191.C, .int .i64 vt191.D, .int .i64 x237, .int .i64 vt256, .int .i64 0, .int .i64 0, .slice none 0 0]) rfl (by kernel_rfl) (by kernel_rfl : _ = Value.pointer (some ⟨b46, 10, none⟩)) (by kernel_rfl : _ = Value.int .i64 vt256) rfl rfl (by intro u_ hu_; simp only [List.mem_cons, List.not_mem_nil, or_false] at hu_; subst hu_; rfl) HS270 (Nat.le_of_ble_eq_true rfl) (by kernel_rfl) ?_)
          intro W271 HS272
          refine seqL1 (by kernel_rfl) ?_
          refine seqK rfl (does_store (n := 1) (vs := [.int .i64 vt263]) (cs' := #[.int .i64 kind17, .int .u64 (u64 ((u64 (vt32)) * 11400714819323198485)), .int .i64 number18, .int .i64 x82, .int .i64 x131, .int .i64 vt191.A, .int .i64 vt191.B, .int .i64 vt191.C, .int .i64 vt191.D, .int .i64 x237, .int .i64 vt256, .int .i64 vt263, .int .i64 0, .slice none 0 0]) rfl (by kernel_rfl) (by kernel_rfl : _ = Value.pointer (some ⟨b46, 11, none⟩)) (by kernel_rfl : _ = Value.int .i64 vt263) rfl rfl (by intro u_ hu_; simp only [List.mem_cons, List.not_mem_nil, or_false] at hu_; subst hu_; rfl) HS272 (Nat.le_of_ble_eq_true rfl) (by kernel_rfl) ?_)
          intro W273 HS274
          refine wpList_nil ?_
          refine hn147 _ _ ?_
          refine hK142 _ _ ?_
          refine wp_seq_k (fun K280 hK281 => ?_)
          refine wp_region_lit ?_
          refine seqK rfl (does_run (run_loadN (n := 14) rfl Tryd.underlying67 rfl (by kernel_rfl) (by kernel_rfl : _ = Value.pointer (some ⟨b46, 0, none⟩)) (cs := [.int .i64 kind17, .int .u64 (u64 ((u64 (vt32)) * 11400714819323198485)), .int .i64 number18, .int .i64 x82, .int .i64 x131, .int .i64 vt191.A, .int .i64 vt191.B, .int .i64 vt191.C, .int .i64 vt191.D, .int .i64 x237, .int .i64 vt256, .int .i64 vt263, .int .i64 0, .slice none 0 0]) rfl (HS274.cells 0 14 _ rfl)) ?_)
          have HS282 := HS274.u2
          refine seqK rfl (does_store (n := 14) (vs := [.int .i64 kind17, .int .u64 (u64 ((u64 (vt32)) * 11400714819323198485)), .int .i64 number18, .int .i64 x82, .int .i64 x131, .int .i64 vt191.A, .int .i64 vt191.B, .int .i64 vt191.C, .int .i64 vt191.D, .int .i64 x237, .int .i64 vt256, .int .i64 vt263, .int .i64 0, .slice none 0 0]) (cs' := #[.int .i64 kind17, .int .u64 (u64 ((u64 (vt32)) * 11400714819323198485)), .int .i64 number18, .int .i64 x82, .int .i64 x131, .int .i64 vt191.A, .int .i64 vt191.B, .int .i64 vt191.C, .int .i64 vt191.D, .int .i64 x237, .int .i64 vt256, .int .i64 vt263, .int .i64 0, .slice none 0 0]) rfl (by kernel_rfl) (by kernel_rfl : _ = Value.pointer (some ⟨b25, 0, none⟩)) (by kernel_rfl : _ = Value.agg #[.int .i64 kind17, .int .u64 (u64 ((u64 (vt32)) * 11400714819323198485)), .int .i64 number18, .int .i64 x82, .int .i64 x131, .int .i64 vt191.A, .int .i64 vt191.B, .int .i64 vt191.C, .int .i64 vt191.D, .int .i64 x237, .int .i64 vt256, .int .i64 vt263, .int .i64 0, .slice none 0 0]) rfl rfl (by intro u_ hu_; simp only [List.mem_cons, List.not_mem_nil, or_false] at hu_; rcases hu_ with rfl | rfl | rfl | rfl | rfl | rfl | rfl | rfl | rfl | rfl | rfl | rfl | rfl | rfl <;> rfl) HS282 (Nat.le_of_ble_eq_true rfl) (by kernel_rfl) ?_)
          intro W283 HS284
          refine wpList_nil ?_
          refine hK281 _ _ ?_
          refine wp_ret ?_
          refine hret _ _ ?_
          have HS307 := HS284.cons_nil
          refine ends (v := Value.agg #[.int .i64 kind17, .int .u64 (u64 ((u64 (vt32)) * 11400714819323198485)), .int .i64 number18, .int .i64 x82, .int .i64 x131, .int .i64 vt191.A, .int .i64 vt191.B, .int .i64 vt191.C, .int .i64 vt191.D, .int .i64 x237, .int .i64 vt256, .int .i64 vt263, .int .i64 0, .slice none 0 0]) (results1 (q1 := .cell 8 67) (by kernel_rfl) (resN (n := 14) (cs := [.int .i64 kind17, .int .u64 (u64 ((u64 (vt32)) * 11400714819323198485)), .int .i64 number18, .int .i64 x82, .int .i64 x131, .int .i64 vt191.A, .int .i64 vt191.B, .int .i64 vt191.C, .int .i64 vt191.D, .int .i64 x237, .int .i64 vt256, .int .i64 vt263, .int .i64 0, .slice none 0 0]) (by kernel_rfl : _ = Value.pointer (some ⟨b25, 0, none⟩)) Tryd.underlying67 rfl (by kernel_rfl) rfl (HS307.u1.cells 0 14 _ rfl))) (by kernel_rfl) ?_
          have HS309 := HS307.u3
          have HS310 := HS309.u1
          have HS311 := HS310.u4
          have HS312 := HS311.u4
          have HS313 := HS312.u4
          have HS314 := HS313.drop
          have HS315 := HS314.drop
          have HS316 := HS315.drop
          injection h with h
          injection h with h0_ h
          subst h0_ h
          exact ⟨f266, none, 0, [], rfl, (L36.trans (L43.trans (L61.trans (L77.trans (L126.trans (L195.trans (L208.trans (L224.trans (L233.trans (L251.trans (L260.trans L267))))))))))), HS316, (Own.nil _)⟩
        · have c255 : ¬ (vt247 = 0) := c255
          refine wpRwI 62 (x := (vt247 == 0)) (v := false) (by kernel_rfl) (beq_eq_false_iff_ne.mpr c255) ?_
          refine condF (by kernel_rfl) ?_
          refine wp_skip ?_
          refine hn147 _ _ ?_
          refine hK142 _ _ ?_
          refine wp_seq_k (fun K285 hK286 => ?_)
          refine wp_region_lit ?_
          refine seqK rfl (does_run (run_loadN (n := 14) rfl Tryd.underlying67 rfl (by kernel_rfl) (by kernel_rfl : _ = Value.pointer (some ⟨b46, 0, none⟩)) (cs := [.int .i64 kind17, .int .u64 (u64 ((u64 (vt32)) * 11400714819323198485)), .int .i64 number18, .int .i64 x82, .int .i64 x131, .int .i64 vt191.A, .int .i64 vt191.B, .int .i64 vt191.C, .int .i64 vt191.D, .int .i64 x237, .int .i64 0, .int .i64 0, .int .i64 0, .slice none 0 0]) rfl (HS253.u1.cells 0 14 _ rfl)) ?_)
          have HS287 := HS253.u2
          refine seqK rfl (does_store (n := 14) (vs := [.int .i64 kind17, .int .u64 (u64 ((u64 (vt32)) * 11400714819323198485)), .int .i64 number18, .int .i64 x82, .int .i64 x131, .int .i64 vt191.A, .int .i64 vt191.B, .int .i64 vt191.C, .int .i64 vt191.D, .int .i64 x237, .int .i64 0, .int .i64 0, .int .i64 0, .slice none 0 0]) (cs' := #[.int .i64 kind17, .int .u64 (u64 ((u64 (vt32)) * 11400714819323198485)), .int .i64 number18, .int .i64 x82, .int .i64 x131, .int .i64 vt191.A, .int .i64 vt191.B, .int .i64 vt191.C, .int .i64 vt191.D, .int .i64 x237, .int .i64 0, .int .i64 0, .int .i64 0, .slice none 0 0]) rfl (by kernel_rfl) (by kernel_rfl : _ = Value.pointer (some ⟨b25, 0, none⟩)) (by kernel_rfl : _ = Value.agg #[.int .i64 kind17, .int .u64 (u64 ((u64 (vt32)) * 11400714819323198485)), .int .i64 number18, .int .i64 x82, .int .i64 x131, .int .i64 vt191.A, .int .i64 vt191.B, .int .i64 vt191.C, .int .i64 vt191.D, .int .i64 x237, .int .i64 0, .int .i64 0, .int .i64 0, .slice none 0 0]) rfl rfl (by intro u_ hu_; simp only [List.mem_cons, List.not_mem_nil, or_false] at hu_; rcases hu_ with rfl | rfl | rfl | rfl | rfl | rfl | rfl | rfl | rfl | rfl | rfl | rfl | rfl | rfl <;> rfl) HS287 (Nat.le_of_ble_eq_true rfl) (by kernel_rfl) ?_)
          intro W288 HS289
          refine wpList_nil ?_
          refine hK286 _ _ ?_
          refine wp_ret ?_
          refine hret _ _ ?_
          have HS317 := HS289.cons_nil
          refine ends (v := Value.agg #[.int .i64 kind17, .int .u64 (u64 ((u64 (vt32)) * 11400714819323198485)), .int .i64 number18, .int .i64 x82, .int .i64 x131, .int .i64 vt191.A, .int .i64 vt191.B, .int .i64 vt191.C, .int .i64 vt191.D, .int .i64 x237, .int .i64 0, .int .i64 0, .int .i64 0, .slice none 0 0]) (results1 (q1 := .cell 8 67) (by kernel_rfl) (resN (n := 14) (cs := [.int .i64 kind17, .int .u64 (u64 ((u64 (vt32)) * 11400714819323198485)), .int .i64 number18, .int .i64 x82, .int .i64 x131, .int .i64 vt191.A, .int .i64 vt191.B, .int .i64 vt191.C, .int .i64 vt191.D, .int .i64 x237, .int .i64 0, .int .i64 0, .int .i64 0, .slice none 0 0]) (by kernel_rfl : _ = Value.pointer (some ⟨b25, 0, none⟩)) Tryd.underlying67 rfl (by kernel_rfl) rfl (HS317.u1.cells 0 14 _ rfl))) (by kernel_rfl) ?_
          have HS319 := HS317.u2
          have HS320 := HS319.u1
          have HS321 := HS320.u4
          have HS322 := HS321.u4
          have HS323 := HS322.u4
          have HS324 := HS323.drop
          have HS325 := HS324.drop
          have HS326 := HS325.drop
          injection h with h
          injection h with h0_ h
          subst h0_ h
          exact ⟨f250, none, 0, [], rfl, (L36.trans (L43.trans (L61.trans (L77.trans (L126.trans (L195.trans (L208.trans (L224.trans (L233.trans L251))))))))), HS326, (Own.nil _)⟩
       clear h; have h := hv238; clear hv238
       have hq_ := ite_some h; clear h; rcases hq_ with ⟨c228, h⟩ | ⟨c228, h⟩
       · have c228 : vt220 = 0 := c228
         refine wpRwI 58 (x := (vt220 == 0)) (v := true) (by kernel_rfl) (beq_iff_eq.mpr c228) ?_
         refine condT (by kernel_rfl) ?_
         refine wp_region_lit ?_
         have HS229 := HS226.u1
         refine seqL1 (by kernel_rfl) ?_
         refine seqK rfl (does_store (n := 1) (vs := [.int .i64 4]) (cs' := #[.int .i64 kind17, .int .u64 (u64 ((u64 (vt32)) * 11400714819323198485)), .int .i64 number18, .int .i64 x82, .int .i64 x131, .int .i64 vt191.A, .int .i64 vt191.B, .int .i64 vt191.C, .int .i64 vt191.D, .int .i64 4, .int .i64 0, .int .i64 0, .int .i64 0, .slice none 0 0]) rfl (by kernel_rfl) (by kernel_rfl : _ = Value.pointer (some ⟨b46, 9, none⟩)) (by kernel_rfl : _ = Value.int .i64 4) rfl rfl (by intro u_ hu_; simp only [List.mem_cons, List.not_mem_nil, or_false] at hu_; subst hu_; rfl) HS229 (Nat.le_of_ble_eq_true rfl) (by kernel_rfl) ?_)
         intro W230 HS231
         refine wpList_nil ?_
         refine fnRwI (F := K215) 58 (x := true) (v := (vt220 == 0)) (by kernel_rfl) (Eq.symm (beq_iff_eq.mpr c228)) ?_
         have HS241 := HS231.u3
         have HS242 := HS241.u3
         have HS243 := HS242.u2
         have HS244 := HS243.u3
         exact J239 f223 4 (fun i_ => [Value.pointer (some ⟨b46, 9, none⟩)].getD i_ undef) W230 _ (FM.le.refl _) h HS244 (by kernel_rfl)
       · have c228 : ¬ (vt220 = 0) := c228
         refine wpRwI 58 (x := (vt220 == 0)) (v := false) (by kernel_rfl) (beq_eq_false_iff_ne.mpr c228) ?_
         refine condF (by kernel_rfl) ?_
         refine wp_skip ?_
         refine fnRwI (F := K215) 58 (x := false) (v := (vt220 == 0)) (by kernel_rfl) (Eq.symm (beq_eq_false_iff_ne.mpr c228)) ?_
         exact J239 f223 (w64 (1 * 2 ^ (min (vt204).toNat 64))) (fun i_ => [undef].getD i_ undef) W225 _ (FM.le.refl _) h HS226 (by kernel_rfl)
     · have c188 : ¬ (kind17 = 3) := c188
       refine wpRwI 47 (x := (kind17 == 3)) (v := false) (by kernel_rfl) (beq_eq_false_iff_ne.mpr c188) ?_
       refine wpRwI 48 (x := (kind17 == 3)) (v := false) (by kernel_rfl) (beq_eq_false_iff_ne.mpr c188) ?_
       refine condF (by kernel_rfl) ?_
       refine wp_skip ?_
       refine hn147 _ _ ?_
       refine hK142 _ _ ?_
       refine wp_seq_k (fun K290 hK291 => ?_)
       refine wp_region_lit ?_
       refine seqK rfl (does_run (run_loadN (n := 14) rfl Tryd.underlying67 rfl (by kernel_rfl) (by kernel_rfl : _ = Value.pointer (some ⟨b46, 0, none⟩)) (cs := [.int .i64 kind17, .int .u64 (u64 ((u64 (vt32)) * 11400714819323198485)), .int .i64 number18, .int .i64 x82, .int .i64 x131, .int .i64 0, .int .i64 0, .int .i64 0, .int .i64 0, .int .i64 0, .int .i64 0, .int .i64 0, .int .i64 0, .slice none 0 0]) rfl (HS128.u1.cells 0 14 _ rfl)) ?_)
       have HS292 := HS128.u2
       refine seqK rfl (does_store (n := 14) (vs := [.int .i64 kind17, .int .u64 (u64 ((u64 (vt32)) * 11400714819323198485)), .int .i64 number18, .int .i64 x82, .int .i64 x131, .int .i64 0, .int .i64 0, .int .i64 0, .int .i64 0, .int .i64 0, .int .i64 0, .int .i64 0, .int .i64 0, .slice none 0 0]) (cs' := #[.int .i64 kind17, .int .u64 (u64 ((u64 (vt32)) * 11400714819323198485)), .int .i64 number18, .int .i64 x82, .int .i64 x131, .int .i64 0, .int .i64 0, .int .i64 0, .int .i64 0, .int .i64 0, .int .i64 0, .int .i64 0, .int .i64 0, .slice none 0 0]) rfl (by kernel_rfl) (by kernel_rfl : _ = Value.pointer (some ⟨b25, 0, none⟩)) (by kernel_rfl : _ = Value.agg #[.int .i64 kind17, .int .u64 (u64 ((u64 (vt32)) * 11400714819323198485)), .int .i64 number18, .int .i64 x82, .int .i64 x131, .int .i64 0, .int .i64 0, .int .i64 0, .int .i64 0, .int .i64 0, .int .i64 0, .int .i64 0, .int .i64 0, .slice none 0 0]) rfl rfl (by intro u_ hu_; simp only [List.mem_cons, List.not_mem_nil, or_false] at hu_; rcases hu_ with rfl | rfl | rfl | rfl | rfl | rfl | rfl | rfl | rfl | rfl | rfl | rfl | rfl | rfl <;> rfl) HS292 (Nat.le_of_ble_eq_true rfl) (by kernel_rfl) ?_)
       intro W293 HS294
       refine wpList_nil ?_
       refine hK291 _ _ ?_
       refine wp_ret ?_
       refine hret _ _ ?_
       have HS327 := HS294.cons_nil
       refine ends (v := Value.agg #[.int .i64 kind17, .int .u64 (u64 ((u64 (vt32)) * 11400714819323198485)), .int .i64 number18, .int .i64 x82, .int .i64 x131, .int .i64 0, .int .i64 0, .int .i64 0, .int .i64 0, .int .i64 0, .int .i64 0, .int .i64 0, .int .i64 0, .slice none 0 0]) (results1 (q1 := .cell 8 67) (by kernel_rfl) (resN (n := 14) (cs := [.int .i64 kind17, .int .u64 (u64 ((u64 (vt32)) * 11400714819323198485)), .int .i64 number18, .int .i64 x82, .int .i64 x131, .int .i64 0, .int .i64 0, .int .i64 0, .int .i64 0, .int .i64 0, .int .i64 0, .int .i64 0, .int .i64 0, .slice none 0 0]) (by kernel_rfl : _ = Value.pointer (some ⟨b25, 0, none⟩)) Tryd.underlying67 rfl (by kernel_rfl) rfl (HS327.u1.cells 0 14 _ rfl))) (by kernel_rfl) ?_
       have HS329 := HS327.u2
       have HS330 := HS329.u1
       have HS331 := HS330.u4
       have HS332 := HS331.u4
       have HS333 := HS332.u4
       have HS334 := HS333.drop
       have HS335 := HS334.drop
       have HS336 := HS335.drop
       injection h with h
       injection h with h0_ h
       subst h0_ h
       exact ⟨f125, none, 0, [], rfl, (L36.trans (L43.trans (L61.trans (L77.trans L126)))), HS336, (Own.nil _)⟩
  clear h; have h := hv132; clear hv132
  have hq_ := ite_some h; clear h; rcases hq_ with ⟨c95, h⟩ | ⟨c95, h⟩
  · have c95 : kind17 ≠ 0 := c95
    refine wpRwI 27 (x := (kind17 != 0)) (v := true) (by kernel_rfl) (bne_iff_ne.mpr c95) ?_
    refine condT (by kernel_rfl) ?_
    refine wp_region_lit ?_
    refine seqL1 (by kernel_rfl) ?_
    refine seqK rfl (does_lit (e := (tInt .i64)) (E := 3) (vs := #[(0, Value.int .i64 2), (1, Value.int .i64 5), (2, Value.int .i64 16)]) (cs := #[.int .i64 2, .int .i64 5, .int .i64 16]) (xs := ([2, 5, 16] : List Int)) rfl Tryd.underlying27 (by kernel_rfl) (by kernel_rfl) ⟨[.int .i64 2], _, rfl, rfl, ⟨[.int .i64 5], _, rfl, rfl, ⟨[.int .i64 16], _, rfl, rfl, rfl⟩⟩⟩ rfl HS79 ?_ (by decide))
    intro b96 W97 s98 HS99 _ HO100
    have HS102 := HS99.u1
    have hq_ := bind_some h; clear h; obtain ⟨⟨vt103, vt104⟩, hc105, h⟩ := hq_
    refine seqL1 (by kernel_rfl) ?_
    refine seqK rfl (does_call (f := 23) (args := #[.pointer (some ⟨b1, 0, none⟩), .int .i64 3]) (by kernel_rfl) (spymake_Stream_Next.calls k b1 A4 c5 (⟨s3.L, x81⟩ : S_Stream) 3 HS102 (HR6.mono (L36.trans (L43.trans (L61.trans L77)))) vt103 vt104 hc105) ?_)
    rintro _ W108 ⟨f106, rfl, L107, HS109⟩
    refine ⟨_, rfl, ?_⟩
    have hq_ := guard_some h; clear h; obtain ⟨c110, h⟩ := hq_
    have c110 : 0 ≤ vt103 := c110
    have hq_ := guard_some h; clear h; obtain ⟨c111, h⟩ := hq_
    have c111 : vt103 < (([2, 5, 16] : List Int).length : Int) := c111
    obtain ⟨cs112, hr113, hc114⟩ := (HO100.mono L107).at' (i := vt103) c110 c111
    obtain rfl := hr113
    refine seqK rfl (does_run (run_index (sz := 1) rfl Tryd.underlying27 (by kernel_rfl) (by kernel_rfl : _ = Value.slice (some ⟨b96, 0, none⟩) ([2, 5, 16] : List Int).length 3) (by kernel_rfl : _ = Value.int .i64 vt103) c110 c111 W108) ?_)
    refine seqK rfl (does_run (run_load rfl Tryd.underlying3 rfl (by kernel_rfl : _ = Value.pointer (some ⟨b96, 0 + (vt103 : Int).toNat * 1, none⟩)) ((hc114 HS109.u1) 0 (by decide))) ?_)
    have hq_ := bind_some h; clear h; obtain ⟨⟨vt115, vt116⟩, hc117, h⟩ := hq_
    refine seqK rfl (does_call (f := 24) (args := #[.pointer (some ⟨b1, 0, none⟩), .int .i64 1, .int .i64 (rd ([2, 5, 16] : List Int) vt103)]) (by kernel_rfl) (spymake_Stream_Range.calls k b1 A4 c5 (⟨s3.L, vt104⟩ : S_Stream) 1 (rd ([2, 5, 16] : List Int) vt103) HS109 (HR6.mono (L36.trans (L43.trans (L61.trans (L77.trans L107))))) vt115 vt116 hc117) ?_)
    rintro _ W120 ⟨f118, rfl, L119, HS121⟩
    refine ⟨_, rfl, ?_⟩
    have HS122 := HS121.u2
    refine seqL1 (by kernel_rfl) ?_
    refine seqK rfl (does_store (n := 1) (vs := [.int .i64 vt115]) (cs' := #[.int .i64 kind17, .int .u64 (u64 ((u64 (vt32)) * 11400714819323198485)), .int .i64 number18, .int .i64 x82, .int .i64 vt115, .int .i64 0, .int .i64 0, .int .i64 0, .int .i64 0, .int .i64 0, .int .i64 0, .int .i64 0, .int .i64 0, .slice none 0 0]) rfl (by kernel_rfl) (by kernel_rfl : _ = Value.pointer (some ⟨b46, 4, none⟩)) (by kernel_rfl : _ = Value.int .i64 vt115) rfl rfl (by intro u_ hu_; simp only [List.mem_cons, List.not_mem_nil, or_false] at hu_; subst hu_; rfl) HS122 (Nat.le_of_ble_eq_true rfl) (by kernel_rfl) ?_)
    intro W123 HS124
    refine wpList_nil ?_
    refine fnRwI (F := K90) 27 (x := true) (v := (kind17 != 0)) (by kernel_rfl) (Eq.symm (bne_iff_ne.mpr c95)) ?_
    have HS135 := HS124.u4
    have HS136 := HS135.u4
    have HS137 := HS136.u2
    have HS138 := HS137.u3
    have HS139 := HS138.u4
    have HS140 := HS139.drop
    exact J133 f118 vt116 vt115 (fun i_ => [Value.pointer (some ⟨b1, 0, none⟩), Value.slice (some ⟨b96, 0, none⟩) ([2, 5, 16] : List Int).length 3, Value.pointer (some ⟨b1, 0, none⟩), Value.int .i64 vt103, Value.pointer (some ⟨b96, 0 + (vt103 : Int).toNat * 1, none⟩), Value.int .i64 (rd ([2, 5, 16] : List Int) vt103), Value.int .i64 vt115, Value.pointer (some ⟨b46, 4, none⟩)].getD i_ undef) W123 _ (L107.trans L119) h HS140 (by kernel_rfl)
  · have c95 : ¬ (kind17 ≠ 0) := c95
    refine wpRwI 27 (x := (kind17 != 0)) (v := false) (by kernel_rfl) (bne_eq_false_iff_eq.mpr (Decidable.of_not_not c95)) ?_
    refine condF (by kernel_rfl) ?_
    refine wp_skip ?_
    refine fnRwI (F := K90) 27 (x := false) (v := (kind17 != 0)) (by kernel_rfl) (Eq.symm (bne_eq_false_iff_eq.mpr (Decidable.of_not_not c95))) ?_
    exact J133 f76 x81 0 (fun i_ => [undef, undef, undef, undef, undef, undef, undef, undef].getD i_ undef) W78 _ (FM.le.refl _) h HS79 (by kernel_rfl)
 clear h; have h := hv83; clear hv83
 have hq_ := ite_some h; clear h; rcases hq_ with ⟨c65, h⟩ | ⟨c65, h⟩
 · have c65 : vt57 = 0 := c65
   refine wpRwI 21 (x := (vt57 == 0)) (v := true) (by kernel_rfl) (beq_iff_eq.mpr c65) ?_
   refine condT (by kernel_rfl) ?_
   refine wp_region_lit ?_
   have hq_ := bind_some h; clear h; obtain ⟨⟨vt66, vt67⟩, hc68, h⟩ := hq_
   refine seqL1 (by kernel_rfl) ?_
   refine seqK rfl (does_call (f := 24) (args := #[.pointer (some ⟨b1, 0, none⟩), .int .i64 (-30), .int .i64 30]) (by kernel_rfl) (spymake_Stream_Range.calls k b1 A4 c5 (⟨s3.L, vt58⟩ : S_Stream) (-30) 30 HS63 (HR6.mono (L36.trans (L43.trans L61))) vt66 vt67 hc68) ?_)
   rintro _ W71 ⟨f69, rfl, L70, HS72⟩
   refine ⟨_, rfl, ?_⟩
   have HS73 := HS72.u1
   refine seqL2 (by kernel_rfl) ?_
   refine seqK rfl (does_store (n := 1) (vs := [.int .i64 (w64 (vt66 * 28800000))]) (cs' := #[.int .i64 kind17, .int .u64 (u64 ((u64 (vt32)) * 11400714819323198485)), .int .i64 number18, .int .i64 (w64 (vt66 * 28800000)), .int .i64 0, .int .i64 0, .int .i64 0, .int .i64 0, .int .i64 0, .int .i64 0, .int .i64 0, .int .i64 0, .int .i64 0, .slice none 0 0]) rfl (by kernel_rfl) (by kernel_rfl : _ = Value.pointer (some ⟨b46, 3, none⟩)) (by kernel_rfl : _ = Value.int .i64 (w64 (vt66 * 28800000))) rfl rfl (by intro u_ hu_; simp only [List.mem_cons, List.not_mem_nil, or_false] at hu_; subst hu_; rfl) HS73 (Nat.le_of_ble_eq_true rfl) (by kernel_rfl) ?_)
   intro W74 HS75
   refine wpList_nil ?_
   refine fnRwI (F := K52) 21 (x := true) (v := (vt57 == 0)) (by kernel_rfl) (Eq.symm (beq_iff_eq.mpr c65)) ?_
   have HS86 := HS75.u3
   have HS87 := HS86.u3
   have HS88 := HS87.u2
   have HS89 := HS88.u3
   exact J84 f69 vt67 (w64 (vt66 * 28800000)) (fun i_ => [Value.pointer (some ⟨b1, 0, none⟩), Value.int .i64 vt66, Value.int .i64 (w64 (vt66 * 28800000)), Value.pointer (some ⟨b46, 3, none⟩)].getD i_ undef) W74 _ L70 h HS89 (by kernel_rfl)
 · have c65 : ¬ (vt57 = 0) := c65
   refine wpRwI 21 (x := (vt57 == 0)) (v := false) (by kernel_rfl) (beq_eq_false_iff_ne.mpr c65) ?_
   refine condF (by kernel_rfl) ?_
   refine wp_skip ?_
   refine fnRwI (F := K52) 21 (x := false) (v := (vt57 == 0)) (by kernel_rfl) (Eq.symm (beq_eq_false_iff_ne.mpr c65)) ?_
   exact J84 f60 vt58 vt39 (fun i_ => [undef, undef, undef, undef].getD i_ undef) W62 _ (FM.le.refl _) h HS63 (by kernel_rfl)

theorem strconv_FormatInt.calls (k : Nat) (n b : Int) {t w : World} {f : FM} {H : List Seg} (HS : St t w f H) (HT : TabF Tryd.prog "internal/strconv.uint64pow10" .u64 Go.Lib.pow10Tab f) (r1 : ByteArray) (h : strconv_FormatInt k n b = some r1) :
    Calls Tryd.prog 56 #[.int .i64 n, .int .i64 b] w (fun e w' => ∃ (g : FM), e = .returned (Value.string r1) ∧ FM.le f g ∧ St t w' g H) := by
  unfold strconv_FormatInt at h
  have hq_ := guard_some h; clear h; obtain ⟨h0, h⟩ := hq_
  have hq_ := guard_some h; clear h; obtain ⟨h1, h⟩ := hq_
  have hq_ := guard_some h; clear h; obtain ⟨h2, h⟩ := hq_
  injection h with h; subst h
  subst h0
  exact (itoa_calls (n := n) (fun w_ ht_ => Tryd.strconv_FormatInt_10 n h1 h2 w_ ht_) HS (HT.tab HS)).mono fun e w' ⟨he, hs⟩ => ⟨f, he, FM.le.refl _, hs⟩

set_option maxRecDepth 100000 in
set_option maxHeartbeats 4000000 in
theorem spymake_Cards_1.calls (k : Nat)  (key1 : ByteArray) (n2 : Int) (unit3 : ByteArray) {t w : World} {f : FM} {H : List Seg} (HS : St t w f (H)) (HT : TabF Tryd.prog "internal/strconv.uint64pow10" .u64 Go.Lib.pow10Tab f) (rr1 : S_Card) (h : spymake_Cards_1 k key1 n2 unit3 = some rr1) :
    Calls Tryd.prog 55 #[.string key1, .int .i64 n2, .string unit3] w (fun e w' => ∃ (g : FM), e = .returned (Value.agg #[.string rr1.Key, .string rr1.Value, .string rr1.Unit, .string rr1.Note]) ∧ FM.le f g ∧ St t w' g (H)) := by
 unfold spymake_Cards_1 at h
 refine enter Tryd.func55 rfl (tm := #[.string key1, iV n2, .string unit3, uV, uV, uV, uV, uV, uV, uV, uV, uV]) (by kernel_rfl) ?_
 intro B hret hnor hnp
 refine wp_seq_k (fun K4 hK5 => ?_)
 refine wp_region_lit ?_
 refine seqK rfl (does_alloc (z := Value.agg #[.string ⟨#[]⟩, .string ⟨#[]⟩, .string ⟨#[]⟩, .string ⟨#[]⟩]) (cs := #[.string ⟨#[]⟩, .string ⟨#[]⟩, .string ⟨#[]⟩, .string ⟨#[]⟩]) rfl (by kernel_rfl) rfl HS ?_)
 intro b6 W7 HS8
 refine wpList_nil ?_
 refine hK5 _ _ ?_
 refine wp_seq_k (fun K10 hK11 => ?_)
 refine wp_region_lit ?_
 have hq_ := bind_some h; clear h; obtain ⟨vt12, hc13, h⟩ := hq_
 refine seqL2 (by kernel_rfl) ?_
 refine seqK rfl (does_call (f := 56) (args := #[.int .i64 n2, .int .i64 10]) (by kernel_rfl) (strconv_FormatInt.calls k n2 10 HS8 HT vt12 hc13) ?_)
 rintro _ W16 ⟨f14, rfl, L15, HS17⟩
 refine ⟨_, rfl, ?_⟩
 refine seqL2 (by kernel_rfl) ?_
 refine seqK rfl (does_store (n := 4) (vs := [.string key1, .string vt12, .string unit3, .string ⟨#[]⟩]) (cs' := #[.string key1, .string vt12, .string unit3, .string ⟨#[]⟩]) rfl (by kernel_rfl) (by kernel_rfl : _ = Value.pointer (some ⟨b6, 0, none⟩)) (by kernel_rfl : _ = Value.agg #[.string key1, .string vt12, .string unit3, .string ⟨#[]⟩]) rfl rfl (by intro u_ hu_; simp only [List.mem_cons, List.not_mem_nil, or_false] at hu_; rcases hu_ with rfl | rfl | rfl | rfl <;> rfl) HS17 (Nat.le_of_ble_eq_true rfl) (by kernel_rfl) ?_)
 intro W18 HS19
 refine wpList_nil ?_
 refine hK11 _ _ ?_
 refine wp_ret ?_
 refine hret _ _ ?_
 refine ends (v := Value.agg #[.string key1, .string vt12, .string unit3, .string ⟨#[]⟩]) (results1 (q1 := .cell 6 75) (by kernel_rfl) (resN (n := 4) (cs := [.string key1, .string vt12, .string unit3, .string ⟨#[]⟩]) (by kernel_rfl : _ = Value.pointer (some ⟨b6, 0, none⟩)) Tryd.underlying75 rfl (by kernel_rfl) rfl (HS19.cells 0 4 _ rfl))) (by kernel_rfl) ?_
 have HS20 := HS19.drop
 injection h with h
 subst h
 exact ⟨f14, rfl, L15, HS20⟩

set_option maxRecDepth 100000 in
set_option maxHeartbeats 4000000 in
theorem spymake_Cards.calls (k : Nat) (A2 : Option Addr) (c3 : Nat) (x1 : S_Shot) {t w : World} {f : FM} {H : List Seg} (HS : St t w f (H)) (HR4 : SlR ty_Hit f A2 c3 x1.Hits) (HT : TabF Tryd.prog "internal/strconv.uint64pow10" .u64 Go.Lib.pow10Tab f) (rr1 : List S_Card) (h : spymake_Cards k x1 = some rr1) :
    Calls Tryd.prog 37 #[.agg #[.int .i64 x1.Kind, .int .u64 x1.Seed, .int .i64 x1.Number, .int .i64 x1.Begin, .int .i64 x1.Beats, .int .i64 x1.Plate.A, .int .i64 x1.Plate.B, .int .i64 x1.Plate.C, .int .i64 x1.Plate.D, .int .i64 x1.Seeing, .int .i64 x1.DriftX, .int .i64 x1.DriftY, .int .i64 x1.Lamp, .slice A2 x1.Hits.length c3]] w (fun e w' => ∃ (g : FM) (A265 : Option Addr) (c266 : Nat) (s267 : Seg), e = .returned (Value.slice A265 rr1.length c266) ∧ FM.le f g ∧ St t w' g (s267 :: H) ∧ Own ty_Card 75 g A265 c266 s267 rr1) := by
 unfold spymake_Cards at h
 refine enter Tryd.func37 rfl (tm := #[(ag_Shot x1 A2 c3), uV, uV, uV, uV, uV, uV, uV, uV, uV, uV, uV, uV, uV, uV, uV, uV, uV, uV, uV, uV, uV, uV, uV, uV, uV, uV, uV, uV, uV, uV, uV, uV, uV, uV, uV, uV, uV, uV, uV, uV, uV, uV, uV, uV, uV, uV, uV, uV, uV, uV, uV, uV, uV, uV, uV, uV, uV, uV, uV, uV, uV, uV, uV, uV, uV, uV, uV, uV, uV, uV, uV, uV, uV, uV, uV, uV, uV]) (by kernel_rfl) ?_
 intro B hret hnor hnp
 refine wp_seq_k (fun K5 hK6 => ?_)
 refine wp_region_lit ?_
 refine seqK rfl (does_box (cs := #[.int .i64 x1.Kind, .int .u64 x1.Seed, .int .i64 x1.Number, .int .i64 x1.Begin, .int .i64 x1.Beats, .int .i64 x1.Plate.A, .int .i64 x1.Plate.B, .int .i64 x1.Plate.C, .int .i64 x1.Plate.D, .int .i64 x1.Seeing, .int .i64 x1.DriftX, .int .i64 x1.DriftY, .int .i64 x1.Lamp, .slice A2 x1.Hits.length c3]) rfl (by kernel_rfl : _ = Value.agg #[.int .i64 x1.Kind, .int .u64 x1.Seed, .int .i64 x1.Number, .int .i64 x1.Begin, .int .i64 x1.Beats, .int .i64 x1.Plate.A, .int .i64 x1.Plate.B, .int .i64 x1.Plate.C, .int .i64 x1.Plate.D, .int .i64 x1.Seeing, .int .i64 x1.DriftX, .int .i64 x1.DriftY, .int .i64 x1.Lamp, .slice A2 x1.Hits.length c3]) rfl HS ?_)
 intro b7 W8 HS9
 refine seqS1 (a' := ⟨#[(ag_Shot x1 A2 c3), pV b7 0, .slice none 0 0, uV, uV, uV, uV, uV, uV, uV, uV, uV, uV, uV, uV, uV, uV, uV, uV, uV, uV, uV, uV, uV, uV, uV, uV, uV, uV, uV, uV, uV, uV, uV, uV, uV, uV, uV, uV, uV, uV, uV, uV, uV, uV, uV, uV, uV, uV, uV, uV, uV, uV, uV, uV, uV, uV, uV, uV, uV, uV, uV, uV, uV, uV, uV, uV, uV, uV, uV, uV, uV, uV, uV, uV, uV, uV, uV], []⟩) (by kernel_rfl) ?_
 refine wpList_nil ?_
 refine hK6 _ _ ?_
 refine wp_seq_k (fun K11 hK12 => ?_)
 refine wp_region_lit ?_
 refine seqS1 (a' := ⟨#[(ag_Shot x1 A2 c3), pV b7 0, .slice none 0 0, .func (.func 55) #[] #[], uV, uV, uV, uV, uV, uV, uV, uV, uV, uV, uV, uV, uV, uV, uV, uV, uV, uV, uV, uV, uV, uV, uV, uV, uV, uV, uV, uV, uV, uV, uV, uV, uV, uV, uV, uV, uV, uV, uV, uV, uV, uV, uV, uV, uV, uV, uV, uV, uV, uV, uV, uV, uV, uV, uV, uV, uV, uV, uV, uV, uV, uV, uV, uV, uV, uV, uV, uV, uV, uV, uV, uV, uV, uV], []⟩) (by kernel_rfl) ?_
 refine wpList_nil ?_
 refine hK12 _ _ ?_
 refine wp_seq_k (fun K13 hK14 => ?_)
 refine wp_region_lit ?_
 refine seqK rfl (does_lit (e := tStr) (E := 9) (vs := #[(0, Value.string ⟨#[98, 105, 97, 115]⟩), (1, Value.string ⟨#[100, 97, 114, 107]⟩), (2, Value.string ⟨#[102, 108, 97, 116]⟩), (3, Value.string ⟨#[115, 99, 105, 101, 110, 99, 101]⟩)]) (cs := #[.string ⟨#[98, 105, 97, 115]⟩, .string ⟨#[100, 97, 114, 107]⟩, .string ⟨#[102, 108, 97, 116]⟩, .string ⟨#[115, 99, 105, 101, 110, 99, 101]⟩]) (xs := ([(⟨#[98, 105, 97, 115]⟩ : ByteArray), (⟨#[100, 97, 114, 107]⟩ : ByteArray), (⟨#[102, 108, 97, 116]⟩ : ByteArray), (⟨#[115, 99, 105, 101, 110, 99, 101]⟩ : ByteArray)] : List ByteArray)) rfl Tryd.underlying90 (by kernel_rfl) (by kernel_rfl) ⟨[.string ⟨#[98, 105, 97, 115]⟩], _, rfl, rfl, ⟨[.string ⟨#[100, 97, 114, 107]⟩], _, rfl, rfl, ⟨[.string ⟨#[102, 108, 97, 116]⟩], _, rfl, rfl, ⟨[.string ⟨#[115, 99, 105, 101, 110, 99, 101]⟩], _, rfl, rfl, rfl⟩⟩⟩⟩ rfl HS9 ?_ (by decide))
 intro b15 W16 s17 HS18 _ HO19
 refine seqL1 (by kernel_rfl) ?_
 refine seqK rfl (does_run (run_load rfl Tryd.underlying3 rfl (by kernel_rfl : _ = Value.pointer (some ⟨b7, 0, none⟩)) (HS18.u1.cell 0)) ?_)
 have hq_ := bind_some h; clear h; obtain ⟨vt21, hc22, h⟩ := hq_
 refine seqK rfl (does_call (f := 6) (args := #[.int .i64 x1.Kind, .int .i64 4]) (by kernel_rfl) (spymake_Below.calls k x1.Kind 4 HS18 vt21 hc22) ?_)
 rintro _ W25 ⟨f23, rfl, L24, HS26⟩
 refine ⟨_, rfl, ?_⟩
 have hq_ := guard_some h; clear h; obtain ⟨c27, h⟩ := hq_
 have c27 : 0 ≤ vt21 := c27
 have hq_ := guard_some h; clear h; obtain ⟨c28, h⟩ := hq_
 have c28 : vt21 < (([(⟨#[98, 105, 97, 115]⟩ : ByteArray), (⟨#[100, 97, 114, 107]⟩ : ByteArray), (⟨#[102, 108, 97, 116]⟩ : ByteArray), (⟨#[115, 99, 105, 101, 110, 99, 101]⟩ : ByteArray)] : List ByteArray).length : Int) := c28
 obtain ⟨cs29, hr30, hc31⟩ := (HO19.mono L24).at' (i := vt21) c27 c28
 obtain rfl := hr30
 refine seqK rfl (does_run (run_index (sz := 1) rfl Tryd.underlying90 (by kernel_rfl) (by kernel_rfl : _ = Value.slice (some ⟨b15, 0, none⟩) ([(⟨#[98, 105, 97, 115]⟩ : ByteArray), (⟨#[100, 97, 114, 107]⟩ : ByteArray), (⟨#[102, 108, 97, 116]⟩ : ByteArray), (⟨#[115, 99, 105, 101, 110, 99, 101]⟩ : ByteArray)] : List ByteArray).length 4) (by kernel_rfl : _ = Value.int .i64 vt21) c27 c28 W25) ?_)
 refine seqK rfl (does_run (run_load rfl Tryd.underlying9 rfl (by kernel_rfl : _ = Value.pointer (some ⟨b15, 0 + (vt21 : Int).toNat * 1, none⟩)) ((hc31 HS26) 0 (by decide))) ?_)
 refine seqS1 (a' := ⟨#[(ag_Shot x1 A2 c3), pV b7 0, .slice none 0 0, .func (.func 55) #[] #[], .string (rd ([(⟨#[98, 105, 97, 115]⟩ : ByteArray), (⟨#[100, 97, 114, 107]⟩ : ByteArray), (⟨#[102, 108, 97, 116]⟩ : ByteArray), (⟨#[115, 99, 105, 101, 110, 99, 101]⟩ : ByteArray)] : List ByteArray) vt21), uV, uV, uV, .slice (some ⟨b15, 0, none⟩) ([(⟨#[98, 105, 97, 115]⟩ : ByteArray), (⟨#[100, 97, 114, 107]⟩ : ByteArray), (⟨#[102, 108, 97, 116]⟩ : ByteArray), (⟨#[115, 99, 105, 101, 110, 99, 101]⟩ : ByteArray)] : List ByteArray).length 4, pV b7 0, iV x1.Kind, iV vt21, pV b15 (0 + (vt21 : Int).toNat * 1), .string (rd ([(⟨#[98, 105, 97, 115]⟩ : ByteArray), (⟨#[100, 97, 114, 107]⟩ : ByteArray), (⟨#[102, 108, 97, 116]⟩ : ByteArray), (⟨#[115, 99, 105, 101, 110, 99, 101]⟩ : ByteArray)] : List ByteArray) vt21), uV, uV, uV, uV, uV, uV, uV, uV, uV, uV, uV, uV, uV, uV, uV, uV, uV, uV, uV, uV, uV, uV, uV, uV, uV, uV, uV, uV, uV, uV, uV, uV, uV, uV, uV, uV, uV, uV, uV, uV, uV, uV, uV, uV, uV, uV, uV, uV, uV, uV, uV, uV, uV, uV, uV, uV, uV, uV, uV, uV, uV, uV, uV, uV], []⟩) (by kernel_rfl) ?_
 refine wpList_nil ?_
 refine hK14 _ _ ?_
 refine wp_seq_k (fun K32 hK33 => ?_)
 refine heldG (S := Sg t f23 (s17 :: [(b7, .cells #[.int .i64 x1.Kind, .int .u64 x1.Seed, .int .i64 x1.Number, .int .i64 x1.Begin, .int .i64 x1.Beats, .int .i64 x1.Plate.A, .int .i64 x1.Plate.B, .int .i64 x1.Plate.C, .int .i64 x1.Plate.D, .int .i64 x1.Seeing, .int .i64 x1.DriftX, .int .i64 x1.DriftY, .int .i64 x1.Lamp, .slice A2 x1.Hits.length c3] 67 (0, 0))] :: H) []) (n := 16) (by kernel_rfl) rfl HS26 ?_
 intro W34 HS35
 refine takeG [0, 1, 2, 3] (n := 16) (fuel := 12) (l' := #[true, true, true, true, false, false, false, false, false, false, false, false, false, false, false, false]) (a' := ⟨#[(ag_Shot x1 A2 c3), pV b7 0, .slice none 0 0, .func (.func 55) #[] #[], .string (rd ([(⟨#[98, 105, 97, 115]⟩ : ByteArray), (⟨#[100, 97, 114, 107]⟩ : ByteArray), (⟨#[102, 108, 97, 116]⟩ : ByteArray), (⟨#[115, 99, 105, 101, 110, 99, 101]⟩ : ByteArray)] : List ByteArray) vt21), uV, uV, uV, .slice (some ⟨b15, 0, none⟩) ([(⟨#[98, 105, 97, 115]⟩ : ByteArray), (⟨#[100, 97, 114, 107]⟩ : ByteArray), (⟨#[102, 108, 97, 116]⟩ : ByteArray), (⟨#[115, 99, 105, 101, 110, 99, 101]⟩ : ByteArray)] : List ByteArray).length 4, pV b7 0, iV x1.Kind, iV vt21, pV b15 (0 + (vt21 : Int).toNat * 1), .string (rd ([(⟨#[98, 105, 97, 115]⟩ : ByteArray), (⟨#[100, 97, 114, 107]⟩ : ByteArray), (⟨#[102, 108, 97, 116]⟩ : ByteArray), (⟨#[115, 99, 105, 101, 110, 99, 101]⟩ : ByteArray)] : List ByteArray) vt21), .string (rd ([(⟨#[98, 105, 97, 115]⟩ : ByteArray), (⟨#[100, 97, 114, 107]⟩ : ByteArray), (⟨#[102, 108, 97, 116]⟩ : ByteArray), (⟨#[115, 99, 105, 101, 110, 99, 101]⟩ : ByteArray)] : List ByteArray) vt21), .agg #[.string ⟨#[75, 73, 78, 68]⟩, .string (rd ([(⟨#[98, 105, 97, 115]⟩ : ByteArray), (⟨#[100, 97, 114, 107]⟩ : ByteArray), (⟨#[102, 108, 97, 116]⟩ : ByteArray), (⟨#[115, 99, 105, 101, 110, 99, 101]⟩ : ByteArray)] : List ByteArray) vt21), .string ⟨#[]⟩, .string ⟨#[]⟩], .func (.func 55) #[] #[], pV b7 2, uV, uV, uV, uV, uV, uV, uV, uV, uV, uV, uV, uV, uV, uV, uV, uV, uV, uV, uV, uV, uV, uV, uV, uV, uV, uV, uV, uV, uV, uV, uV, uV, uV, uV, uV, uV, uV, uV, uV, uV, uV, uV, uV, uV, uV, uV, uV, uV, uV, uV, uV, uV, uV, uV, uV, uV, uV, uV, uV, uV], []⟩) rfl (by kernel_rfl) (by kernel_rfl) (by kernel_rfl) hnp (Sg.g0 (Sx.of [] (FM.le.refl _) HS35)) ?_
 refine takeGQ 4 [] rfl (by kernel_rfl) (by kernel_rfl) (by kernel_rfl) (by kernel_rfl) (by kernel_rfl) (by kernel_rfl) hnp (Sg.g0 (Sx.of [] (FM.le.refl _) HS35)) (fun w_ hw_ => by obtain ⟨g_, hl_, hS_⟩ := hw_.st; exact run_load rfl Tryd.underlying3 rfl (by kernel_rfl : _ = Value.pointer (some ⟨b7, 2, none⟩)) (hS_.u1.cell 2)) ?_
 refine takeG [6, 7] (n := 11) (fuel := 9) (l' := #[true, true, true, true, true, false, true, true, false, false, false, false, false, false, false, false]) (a' := ⟨#[(ag_Shot x1 A2 c3), pV b7 0, .slice none 0 0, .func (.func 55) #[] #[], .string (rd ([(⟨#[98, 105, 97, 115]⟩ : ByteArray), (⟨#[100, 97, 114, 107]⟩ : ByteArray), (⟨#[102, 108, 97, 116]⟩ : ByteArray), (⟨#[115, 99, 105, 101, 110, 99, 101]⟩ : ByteArray)] : List ByteArray) vt21), uV, uV, uV, .slice (some ⟨b15, 0, none⟩) ([(⟨#[98, 105, 97, 115]⟩ : ByteArray), (⟨#[100, 97, 114, 107]⟩ : ByteArray), (⟨#[102, 108, 97, 116]⟩ : ByteArray), (⟨#[115, 99, 105, 101, 110, 99, 101]⟩ : ByteArray)] : List ByteArray).length 4, pV b7 0, iV x1.Kind, iV vt21, pV b15 (0 + (vt21 : Int).toNat * 1), .string (rd ([(⟨#[98, 105, 97, 115]⟩ : ByteArray), (⟨#[100, 97, 114, 107]⟩ : ByteArray), (⟨#[102, 108, 97, 116]⟩ : ByteArray), (⟨#[115, 99, 105, 101, 110, 99, 101]⟩ : ByteArray)] : List ByteArray) vt21), .string (rd ([(⟨#[98, 105, 97, 115]⟩ : ByteArray), (⟨#[100, 97, 114, 107]⟩ : ByteArray), (⟨#[102, 108, 97, 116]⟩ : ByteArray), (⟨#[115, 99, 105, 101, 110, 99, 101]⟩ : ByteArray)] : List ByteArray) vt21), .agg #[.string ⟨#[75, 73, 78, 68]⟩, .string (rd ([(⟨#[98, 105, 97, 115]⟩ : ByteArray), (⟨#[100, 97, 114, 107]⟩ : ByteArray), (⟨#[102, 108, 97, 116]⟩ : ByteArray), (⟨#[115, 99, 105, 101, 110, 99, 101]⟩ : ByteArray)] : List ByteArray) vt21), .string ⟨#[]⟩, .string ⟨#[]⟩], .func (.func 55) #[] #[], pV b7 2, iV x1.Number, uV, .func (.func 55) #[] #[], pV b7 3, uV, uV, uV, uV, uV, uV, uV, uV, uV, uV, uV, uV, uV, uV, uV, uV, uV, uV, uV, uV, uV, uV, uV, uV, uV, uV, uV, uV, uV, uV, uV, uV, uV, uV, uV, uV, uV, uV, uV, uV, uV, uV, uV, uV, uV, uV, uV, uV, uV, uV, uV, uV, uV, uV, uV, uV], []⟩) rfl (by kernel_rfl) (by kernel_rfl) (by kernel_rfl) hnp (Sg.g0 (Sx.of [] (FM.le.refl _) HS35)) ?_
 refine takeGQ 8 [] rfl (by kernel_rfl) (by kernel_rfl) (by kernel_rfl) (by kernel_rfl) (by kernel_rfl) (by kernel_rfl) hnp (Sg.g0 (Sx.of [] (FM.le.refl _) HS35)) (fun w_ hw_ => by obtain ⟨g_, hl_, hS_⟩ := hw_.st; exact run_load rfl Tryd.underlying61 rfl (by kernel_rfl : _ = Value.pointer (some ⟨b7, 3, none⟩)) (hS_.u1.cell 3)) ?_
 refine takeG [10, 11] (n := 8) (fuel := 6) (l' := #[true, true, true, true, true, false, true, true, true, false, true, true, false, false, false, false]) (a' := ⟨#[(ag_Shot x1 A2 c3), pV b7 0, .slice none 0 0, .func (.func 55) #[] #[], .string (rd ([(⟨#[98, 105, 97, 115]⟩ : ByteArray), (⟨#[100, 97, 114, 107]⟩ : ByteArray), (⟨#[102, 108, 97, 116]⟩ : ByteArray), (⟨#[115, 99, 105, 101, 110, 99, 101]⟩ : ByteArray)] : List ByteArray) vt21), uV, uV, uV, .slice (some ⟨b15, 0, none⟩) ([(⟨#[98, 105, 97, 115]⟩ : ByteArray), (⟨#[100, 97, 114, 107]⟩ : ByteArray), (⟨#[102, 108, 97, 116]⟩ : ByteArray), (⟨#[115, 99, 105, 101, 110, 99, 101]⟩ : ByteArray)] : List ByteArray).length 4, pV b7 0, iV x1.Kind, iV vt21, pV b15 (0 + (vt21 : Int).toNat * 1), .string (rd ([(⟨#[98, 105, 97, 115]⟩ : ByteArray), (⟨#[100, 97, 114, 107]⟩ : ByteArray), (⟨#[102, 108, 97, 116]⟩ : ByteArray), (⟨#[115, 99, 105, 101, 110, 99, 101]⟩ : ByteArray)] : List ByteArray) vt21), .string (rd ([(⟨#[98, 105, 97, 115]⟩ : ByteArray), (⟨#[100, 97, 114, 107]⟩ : ByteArray), (⟨#[102, 108, 97, 116]⟩ : ByteArray), (⟨#[115, 99, 105, 101, 110, 99, 101]⟩ : ByteArray)] : List ByteArray) vt21), .agg #[.string ⟨#[75, 73, 78, 68]⟩, .string (rd ([(⟨#[98, 105, 97, 115]⟩ : ByteArray), (⟨#[100, 97, 114, 107]⟩ : ByteArray), (⟨#[102, 108, 97, 116]⟩ : ByteArray), (⟨#[115, 99, 105, 101, 110, 99, 101]⟩ : ByteArray)] : List ByteArray) vt21), .string ⟨#[]⟩, .string ⟨#[]⟩], .func (.func 55) #[] #[], pV b7 2, iV x1.Number, uV, .func (.func 55) #[] #[], pV b7 3, iV x1.Begin, uV, .func (.func 55) #[] #[], pV b7 4, uV, uV, uV, uV, uV, uV, uV, uV, uV, uV, uV, uV, uV, uV, uV, uV, uV, uV, uV, uV, uV, uV, uV, uV, uV, uV, uV, uV, uV, uV, uV, uV, uV, uV, uV, uV, uV, uV, uV, uV, uV, uV, uV, uV, uV, uV, uV, uV, uV, uV, uV, uV], []⟩) rfl (by kernel_rfl) (by kernel_rfl) (by kernel_rfl) hnp (Sg.g0 (Sx.of [] (FM.le.refl _) HS35)) ?_
 refine takeGQ 12 [] rfl (by kernel_rfl) (by kernel_rfl) (by kernel_rfl) (by kernel_rfl) (by kernel_rfl) (by kernel_rfl) hnp (Sg.g0 (Sx.of [] (FM.le.refl _) HS35)) (fun w_ hw_ => by obtain ⟨g_, hl_, hS_⟩ := hw_.st; exact run_load rfl Tryd.underlying3 rfl (by kernel_rfl : _ = Value.pointer (some ⟨b7, 4, none⟩)) (hS_.u1.cell 4)) ?_
 have hq_ := bind_some h; clear h; obtain ⟨vt36, hc37, h⟩ := hq_
 refine takeGE 5 (by kernel_rfl) rfl (by kernel_rfl) (does_call (f := 55) (args := #[.string ⟨#[78, 85, 77, 66, 69, 82]⟩, .int .i64 x1.Number, .string ⟨#[]⟩]) (by kernel_rfl) (spymake_Cards_1.calls k (⟨#[78, 85, 77, 66, 69, 82]⟩ : ByteArray) x1.Number (⟨#[]⟩ : ByteArray) HS35 (HT.mono L24) vt36 hc37) ?_)
 rintro _ W40 ⟨f38, rfl, L39, HS41⟩
 refine ⟨_, rfl, ?_⟩
 refine ⟨(Sg.g0 (Sx.of [] L39 HS41)), ?_⟩
 have hq_ := bind_some h; clear h; obtain ⟨vt42, hc43, h⟩ := hq_
 refine takeGE 9 (by kernel_rfl) rfl (by kernel_rfl) (does_call (f := 55) (args := #[.string ⟨#[66, 69, 71, 73, 78]⟩, .int .i64 x1.Begin, .string ⟨#[116, 105, 99, 107]⟩]) (by kernel_rfl) (spymake_Cards_1.calls k (⟨#[66, 69, 71, 73, 78]⟩ : ByteArray) x1.Begin (⟨#[116, 105, 99, 107]⟩ : ByteArray) HS41 (HT.mono (L24.trans L39)) vt42 hc43) ?_)
 rintro _ W46 ⟨f44, rfl, L45, HS47⟩
 refine ⟨_, rfl, ?_⟩
 refine ⟨(Sg.g0 (Sx.of [] (L39.trans L45) HS47)), ?_⟩
 have hq_ := bind_some h; clear h; obtain ⟨vt48, hc49, h⟩ := hq_
 refine takeGE 13 (by kernel_rfl) rfl (by kernel_rfl) (does_call (f := 55) (args := #[.string ⟨#[66, 69, 65, 84, 83]⟩, .int .i64 x1.Beats, .string ⟨#[98, 101, 97, 116]⟩]) (by kernel_rfl) (spymake_Cards_1.calls k (⟨#[66, 69, 65, 84, 83]⟩ : ByteArray) x1.Beats (⟨#[98, 101, 97, 116]⟩ : ByteArray) HS47 (HT.mono (L24.trans (L39.trans L45))) vt48 hc49) ?_)
 rintro _ W52 ⟨f50, rfl, L51, HS53⟩
 refine ⟨_, rfl, ?_⟩
 refine ⟨(Sg.g0 (Sx.of [] (L39.trans (L45.trans L51)) HS53)), ?_⟩
 refine takeGE 14 (by kernel_rfl) rfl (by kernel_rfl) (does_lit (e := ty_Card) (E := 75) (vs := #[(0, Value.agg #[.string ⟨#[75, 73, 78, 68]⟩, .string (rd ([(⟨#[98, 105, 97, 115]⟩ : ByteArray), (⟨#[100, 97, 114, 107]⟩ : ByteArray), (⟨#[102, 108, 97, 116]⟩ : ByteArray), (⟨#[115, 99, 105, 101, 110, 99, 101]⟩ : ByteArray)] : List ByteArray) vt21), .string ⟨#[]⟩, .string ⟨#[]⟩]), (1, Value.agg #[.string vt36.Key, .string vt36.Value, .string vt36.Unit, .string vt36.Note]), (2, Value.agg #[.string vt42.Key, .string vt42.Value, .string vt42.Unit, .string vt42.Note]), (3, Value.agg #[.string vt48.Key, .string vt48.Value, .string vt48.Unit, .string vt48.Note])]) (cs := #[.string ⟨#[75, 73, 78, 68]⟩, .string (rd ([(⟨#[98, 105, 97, 115]⟩ : ByteArray), (⟨#[100, 97, 114, 107]⟩ : ByteArray), (⟨#[102, 108, 97, 116]⟩ : ByteArray), (⟨#[115, 99, 105, 101, 110, 99, 101]⟩ : ByteArray)] : List ByteArray) vt21), .string ⟨#[]⟩, .string ⟨#[]⟩, .string vt36.Key, .string vt36.Value, .string vt36.Unit, .string vt36.Note, .string vt42.Key, .string vt42.Value, .string vt42.Unit, .string vt42.Note, .string vt48.Key, .string vt48.Value, .string vt48.Unit, .string vt48.Note]) (xs := ([(⟨(⟨#[75, 73, 78, 68]⟩ : ByteArray), (rd ([(⟨#[98, 105, 97, 115]⟩ : ByteArray), (⟨#[100, 97, 114, 107]⟩ : ByteArray), (⟨#[102, 108, 97, 116]⟩ : ByteArray), (⟨#[115, 99, 105, 101, 110, 99, 101]⟩ : ByteArray)] : List ByteArray) vt21), (⟨#[]⟩ : ByteArray), (⟨#[]⟩ : ByteArray)⟩ : S_Card), vt36, vt42, vt48] : List S_Card)) rfl Tryd.underlying31 (by kernel_rfl) (by kernel_rfl) ⟨[.string ⟨#[75, 73, 78, 68]⟩, .string (rd ([(⟨#[98, 105, 97, 115]⟩ : ByteArray), (⟨#[100, 97, 114, 107]⟩ : ByteArray), (⟨#[102, 108, 97, 116]⟩ : ByteArray), (⟨#[115, 99, 105, 101, 110, 99, 101]⟩ : ByteArray)] : List ByteArray) vt21), .string ⟨#[]⟩, .string ⟨#[]⟩], _, rfl, rfl, ⟨[.string vt36.Key, .string vt36.Value, .string vt36.Unit, .string vt36.Note], _, rfl, rfl, ⟨[.string vt42.Key, .string vt42.Value, .string vt42.Unit, .string vt42.Note], _, rfl, rfl, ⟨[.string vt48.Key, .string vt48.Value, .string vt48.Unit, .string vt48.Note], _, rfl, rfl, rfl⟩⟩⟩⟩ rfl HS53 ?_ (by decide))
 intro b54 W55 s56 HS57 _ HO58
 refine ⟨(Sg.g0 (Sx.of [s56] (L39.trans (L45.trans L51)) HS57)), ?_⟩
 refine takeG [15] (n := 1) (fuel := 0) (l' := #[true, true, true, true, true, true, true, true, true, true, true, true, true, true, true, true]) (a' := ⟨#[(ag_Shot x1 A2 c3), pV b7 0, .slice none 0 0, .func (.func 55) #[] #[], .string (rd ([(⟨#[98, 105, 97, 115]⟩ : ByteArray), (⟨#[100, 97, 114, 107]⟩ : ByteArray), (⟨#[102, 108, 97, 116]⟩ : ByteArray), (⟨#[115, 99, 105, 101, 110, 99, 101]⟩ : ByteArray)] : List ByteArray) vt21), .slice (some ⟨b54, 0, none⟩) ([(⟨(⟨#[75, 73, 78, 68]⟩ : ByteArray), (rd ([(⟨#[98, 105, 97, 115]⟩ : ByteArray), (⟨#[100, 97, 114, 107]⟩ : ByteArray), (⟨#[102, 108, 97, 116]⟩ : ByteArray), (⟨#[115, 99, 105, 101, 110, 99, 101]⟩ : ByteArray)] : List ByteArray) vt21), (⟨#[]⟩ : ByteArray), (⟨#[]⟩ : ByteArray)⟩ : S_Card), vt36, vt42, vt48] : List S_Card).length 4, uV, uV, .slice (some ⟨b15, 0, none⟩) ([(⟨#[98, 105, 97, 115]⟩ : ByteArray), (⟨#[100, 97, 114, 107]⟩ : ByteArray), (⟨#[102, 108, 97, 116]⟩ : ByteArray), (⟨#[115, 99, 105, 101, 110, 99, 101]⟩ : ByteArray)] : List ByteArray).length 4, pV b7 0, iV x1.Kind, iV vt21, pV b15 (0 + (vt21 : Int).toNat * 1), .string (rd ([(⟨#[98, 105, 97, 115]⟩ : ByteArray), (⟨#[100, 97, 114, 107]⟩ : ByteArray), (⟨#[102, 108, 97, 116]⟩ : ByteArray), (⟨#[115, 99, 105, 101, 110, 99, 101]⟩ : ByteArray)] : List ByteArray) vt21), .string (rd ([(⟨#[98, 105, 97, 115]⟩ : ByteArray), (⟨#[100, 97, 114, 107]⟩ : ByteArray), (⟨#[102, 108, 97, 116]⟩ : ByteArray), (⟨#[115, 99, 105, 101, 110, 99, 101]⟩ : ByteArray)] : List ByteArray) vt21), .agg #[.string ⟨#[75, 73, 78, 68]⟩, .string (rd ([(⟨#[98, 105, 97, 115]⟩ : ByteArray), (⟨#[100, 97, 114, 107]⟩ : ByteArray), (⟨#[102, 108, 97, 116]⟩ : ByteArray), (⟨#[115, 99, 105, 101, 110, 99, 101]⟩ : ByteArray)] : List ByteArray) vt21), .string ⟨#[]⟩, .string ⟨#[]⟩], .func (.func 55) #[] #[], pV b7 2, iV x1.Number, (ag_Card vt36), .func (.func 55) #[] #[], pV b7 3, iV x1.Begin, (ag_Card vt42), .func (.func 55) #[] #[], pV b7 4, iV x1.Beats, (ag_Card vt48), .slice (some ⟨b54, 0, none⟩) ([(⟨(⟨#[75, 73, 78, 68]⟩ : ByteArray), (rd ([(⟨#[98, 105, 97, 115]⟩ : ByteArray), (⟨#[100, 97, 114, 107]⟩ : ByteArray), (⟨#[102, 108, 97, 116]⟩ : ByteArray), (⟨#[115, 99, 105, 101, 110, 99, 101]⟩ : ByteArray)] : List ByteArray) vt21), (⟨#[]⟩ : ByteArray), (⟨#[]⟩ : ByteArray)⟩ : S_Card), vt36, vt42, vt48] : List S_Card).length 4, uV, uV, uV, uV, uV, uV, uV, uV, uV, uV, uV, uV, uV, uV, uV, uV, uV, uV, uV, uV, uV, uV, uV, uV, uV, uV, uV, uV, uV, uV, uV, uV, uV, uV, uV, uV, uV, uV, uV, uV, uV, uV, uV, uV, uV, uV, uV, uV, uV], []⟩) rfl (by kernel_rfl) (by kernel_rfl) (by kernel_rfl) hnp (Sg.g0 (Sx.of [s56] (L39.trans (L45.trans L51)) HS57)) ?_
 refine doneG (by kernel_rfl) ?_ _
 refine hK33 _ _ ?_
 refine wp_seq_k (fun K60 hK61 => ?_)
 refine wp_seq_k (fun K62 hK63 => ?_)
 refine wp_region_lit ?_
 refine seqL1 (by kernel_rfl) ?_
 refine seqK rfl (does_run (run_load rfl Tryd.underlying3 rfl (by kernel_rfl : _ = Value.pointer (some ⟨b7, 0, none⟩)) (HS57.u2.cell 0)) ?_)
 refine seqS1 (a' := ⟨#[(ag_Shot x1 A2 c3), pV b7 0, .slice none 0 0, .func (.func 55) #[] #[], .string (rd ([(⟨#[98, 105, 97, 115]⟩ : ByteArray), (⟨#[100, 97, 114, 107]⟩ : ByteArray), (⟨#[102, 108, 97, 116]⟩ : ByteArray), (⟨#[115, 99, 105, 101, 110, 99, 101]⟩ : ByteArray)] : List ByteArray) vt21), .slice (some ⟨b54, 0, none⟩) ([(⟨(⟨#[75, 73, 78, 68]⟩ : ByteArray), (rd ([(⟨#[98, 105, 97, 115]⟩ : ByteArray), (⟨#[100, 97, 114, 107]⟩ : ByteArray), (⟨#[102, 108, 97, 116]⟩ : ByteArray), (⟨#[115, 99, 105, 101, 110, 99, 101]⟩ : ByteArray)] : List ByteArray) vt21), (⟨#[]⟩ : ByteArray), (⟨#[]⟩ : ByteArray)⟩ : S_Card), vt36, vt42, vt48] : List S_Card).length 4, uV, uV, .slice (some ⟨b15, 0, none⟩) ([(⟨#[98, 105, 97, 115]⟩ : ByteArray), (⟨#[100, 97, 114, 107]⟩ : ByteArray), (⟨#[102, 108, 97, 116]⟩ : ByteArray), (⟨#[115, 99, 105, 101, 110, 99, 101]⟩ : ByteArray)] : List ByteArray).length 4, pV b7 0, iV x1.Kind, iV vt21, pV b15 (0 + (vt21 : Int).toNat * 1), .string (rd ([(⟨#[98, 105, 97, 115]⟩ : ByteArray), (⟨#[100, 97, 114, 107]⟩ : ByteArray), (⟨#[102, 108, 97, 116]⟩ : ByteArray), (⟨#[115, 99, 105, 101, 110, 99, 101]⟩ : ByteArray)] : List ByteArray) vt21), .string (rd ([(⟨#[98, 105, 97, 115]⟩ : ByteArray), (⟨#[100, 97, 114, 107]⟩ : ByteArray), (⟨#[102, 108, 97, 116]⟩ : ByteArray), (⟨#[115, 99, 105, 101, 110, 99, 101]⟩ : ByteArray)] : List ByteArray) vt21), .agg #[.string ⟨#[75, 73, 78, 68]⟩, .string (rd ([(⟨#[98, 105, 97, 115]⟩ : ByteArray), (⟨#[100, 97, 114, 107]⟩ : ByteArray), (⟨#[102, 108, 97, 116]⟩ : ByteArray), (⟨#[115, 99, 105, 101, 110, 99, 101]⟩ : ByteArray)] : List ByteArray) vt21), .string ⟨#[]⟩, .string ⟨#[]⟩], .func (.func 55) #[] #[], pV b7 2, iV x1.Number, (ag_Card vt36), .func (.func 55) #[] #[], pV b7 3, iV x1.Begin, (ag_Card vt42), .func (.func 55) #[] #[], pV b7 4, iV x1.Beats, (ag_Card vt48), .slice (some ⟨b54, 0, none⟩) ([(⟨(⟨#[75, 73, 78, 68]⟩ : ByteArray), (rd ([(⟨#[98, 105, 97, 115]⟩ : ByteArray), (⟨#[100, 97, 114, 107]⟩ : ByteArray), (⟨#[102, 108, 97, 116]⟩ : ByteArray), (⟨#[115, 99, 105, 101, 110, 99, 101]⟩ : ByteArray)] : List ByteArray) vt21), (⟨#[]⟩ : ByteArray), (⟨#[]⟩ : ByteArray)⟩ : S_Card), vt36, vt42, vt48] : List S_Card).length 4, pV b7 0, iV x1.Kind, .bool (x1.Kind != 3), uV, uV, uV, uV, uV, uV, uV, uV, uV, uV, uV, uV, uV, uV, uV, uV, uV, uV, uV, uV, uV, uV, uV, uV, uV, uV, uV, uV, uV, uV, uV, uV, uV, uV, uV, uV, uV, uV, uV, uV, uV, uV, uV, uV, uV, uV], []⟩) (by kernel_rfl) ?_
 refine wpList_nil ?_
 refine hK63 _ _ ?_
 have hq_ := ite_some h; clear h; rcases hq_ with ⟨c65, h⟩ | ⟨c65, h⟩
 · have c65 : x1.Kind ≠ 3 := c65
   refine wpRwI 31 (x := (x1.Kind != 3)) (v := true) (by kernel_rfl) (bne_iff_ne.mpr c65) ?_
   refine condT (by kernel_rfl) ?_
   refine wp_seq_k (fun K66 hK67 => ?_)
   refine wp_region_lit ?_
   refine seqS2 (a' := ⟨#[(ag_Shot x1 A2 c3), pV b7 0, .slice (some ⟨b54, 0, none⟩) ([(⟨(⟨#[75, 73, 78, 68]⟩ : ByteArray), (rd ([(⟨#[98, 105, 97, 115]⟩ : ByteArray), (⟨#[100, 97, 114, 107]⟩ : ByteArray), (⟨#[102, 108, 97, 116]⟩ : ByteArray), (⟨#[115, 99, 105, 101, 110, 99, 101]⟩ : ByteArray)] : List ByteArray) vt21), (⟨#[]⟩ : ByteArray), (⟨#[]⟩ : ByteArray)⟩ : S_Card), vt36, vt42, vt48] : List S_Card).length 4, .func (.func 55) #[] #[], .string (rd ([(⟨#[98, 105, 97, 115]⟩ : ByteArray), (⟨#[100, 97, 114, 107]⟩ : ByteArray), (⟨#[102, 108, 97, 116]⟩ : ByteArray), (⟨#[115, 99, 105, 101, 110, 99, 101]⟩ : ByteArray)] : List ByteArray) vt21), .slice (some ⟨b54, 0, none⟩) ([(⟨(⟨#[75, 73, 78, 68]⟩ : ByteArray), (rd ([(⟨#[98, 105, 97, 115]⟩ : ByteArray), (⟨#[100, 97, 114, 107]⟩ : ByteArray), (⟨#[102, 108, 97, 116]⟩ : ByteArray), (⟨#[115, 99, 105, 101, 110, 99, 101]⟩ : ByteArray)] : List ByteArray) vt21), (⟨#[]⟩ : ByteArray), (⟨#[]⟩ : ByteArray)⟩ : S_Card), vt36, vt42, vt48] : List S_Card).length 4, uV, uV, .slice (some ⟨b15, 0, none⟩) ([(⟨#[98, 105, 97, 115]⟩ : ByteArray), (⟨#[100, 97, 114, 107]⟩ : ByteArray), (⟨#[102, 108, 97, 116]⟩ : ByteArray), (⟨#[115, 99, 105, 101, 110, 99, 101]⟩ : ByteArray)] : List ByteArray).length 4, pV b7 0, iV x1.Kind, iV vt21, pV b15 (0 + (vt21 : Int).toNat * 1), .string (rd ([(⟨#[98, 105, 97, 115]⟩ : ByteArray), (⟨#[100, 97, 114, 107]⟩ : ByteArray), (⟨#[102, 108, 97, 116]⟩ : ByteArray), (⟨#[115, 99, 105, 101, 110, 99, 101]⟩ : ByteArray)] : List ByteArray) vt21), .string (rd ([(⟨#[98, 105, 97, 115]⟩ : ByteArray), (⟨#[100, 97, 114, 107]⟩ : ByteArray), (⟨#[102, 108, 97, 116]⟩ : ByteArray), (⟨#[115, 99, 105, 101, 110, 99, 101]⟩ : ByteArray)] : List ByteArray) vt21), .agg #[.string ⟨#[75, 73, 78, 68]⟩, .string (rd ([(⟨#[98, 105, 97, 115]⟩ : ByteArray), (⟨#[100, 97, 114, 107]⟩ : ByteArray), (⟨#[102, 108, 97, 116]⟩ : ByteArray), (⟨#[115, 99, 105, 101, 110, 99, 101]⟩ : ByteArray)] : List ByteArray) vt21), .string ⟨#[]⟩, .string ⟨#[]⟩], .func (.func 55) #[] #[], pV b7 2, iV x1.Number, (ag_Card vt36), .func (.func 55) #[] #[], pV b7 3, iV x1.Begin, (ag_Card vt42), .func (.func 55) #[] #[], pV b7 4, iV x1.Beats, (ag_Card vt48), .slice (some ⟨b54, 0, none⟩) ([(⟨(⟨#[75, 73, 78, 68]⟩ : ByteArray), (rd ([(⟨#[98, 105, 97, 115]⟩ : ByteArray), (⟨#[100, 97, 114, 107]⟩ : ByteArray), (⟨#[102, 108, 97, 116]⟩ : ByteArray), (⟨#[115, 99, 105, 101, 110, 99, 101]⟩ : ByteArray)] : List ByteArray) vt21), (⟨#[]⟩ : ByteArray), (⟨#[]⟩ : ByteArray)⟩ : S_Card), vt36, vt42, vt48] : List S_Card).length 4, pV b7 0, iV x1.Kind, tV, .slice (some ⟨b54, 0, none⟩) ([(⟨(⟨#[75, 73, 78, 68]⟩ : ByteArray), (rd ([(⟨#[98, 105, 97, 115]⟩ : ByteArray), (⟨#[100, 97, 114, 107]⟩ : ByteArray), (⟨#[102, 108, 97, 116]⟩ : ByteArray), (⟨#[115, 99, 105, 101, 110, 99, 101]⟩ : ByteArray)] : List ByteArray) vt21), (⟨#[]⟩ : ByteArray), (⟨#[]⟩ : ByteArray)⟩ : S_Card), vt36, vt42, vt48] : List S_Card).length 4, uV, uV, uV, uV, uV, uV, uV, uV, uV, uV, uV, uV, uV, uV, uV, uV, uV, uV, uV, uV, uV, uV, uV, uV, uV, uV, uV, uV, uV, uV, uV, uV, uV, uV, uV, uV, uV, uV, uV, uV, uV, uV, uV, uV, uV], []⟩) (by kernel_rfl) ?_
   refine wpList_nil ?_
   refine hK67 _ _ ?_
   refine wp_ret ?_
   refine hret _ _ ?_
   refine ends_still (v := Value.slice (some ⟨b54, 0, none⟩) ([(⟨(⟨#[75, 73, 78, 68]⟩ : ByteArray), (rd ([(⟨#[98, 105, 97, 115]⟩ : ByteArray), (⟨#[100, 97, 114, 107]⟩ : ByteArray), (⟨#[102, 108, 97, 116]⟩ : ByteArray), (⟨#[115, 99, 105, 101, 110, 99, 101]⟩ : ByteArray)] : List ByteArray) vt21), (⟨#[]⟩ : ByteArray), (⟨#[]⟩ : ByteArray)⟩ : S_Card), vt36, vt42, vt48] : List S_Card).length 4) (by kernel_rfl) (by kernel_rfl) ?_
   have HS257 := HS57.u2
   have HS258 := HS257.u2
   have HS259 := HS258.drop
   have HS260 := HS259.drop
   injection h with h
   subst h
   exact ⟨f50, (some ⟨b54, 0, none⟩), 4, s56, rfl, (L24.trans (L39.trans (L45.trans L51))), HS260, HO58⟩
 · have c65 : ¬ (x1.Kind ≠ 3) := c65
   refine wpRwI 31 (x := (x1.Kind != 3)) (v := false) (by kernel_rfl) (bne_eq_false_iff_eq.mpr (Decidable.of_not_not c65)) ?_
   refine condF (by kernel_rfl) ?_
   refine wp_skip ?_
   refine hK61 _ _ ?_
   refine wp_seq_k (fun K68 hK69 => ?_)
   refine wp_seq_k (fun K70 hK71 => ?_)
   refine wp_region_lit ?_
   refine seqL2 (by kernel_rfl) ?_
   refine seqK rfl (does_run (run_load rfl Tryd.underlying2 rfl (by kernel_rfl : _ = Value.pointer (some ⟨b7, 5, none⟩)) (HS57.u2.cell 5)) ?_)
   refine seqL2 (by kernel_rfl) ?_
   refine seqK rfl (does_run (run_load rfl Tryd.underlying2 rfl (by kernel_rfl : _ = Value.pointer (some ⟨b7, 6, none⟩)) (HS57.u2.cell 6)) ?_)
   refine seqL2 (by kernel_rfl) ?_
   refine seqK rfl (does_run (run_load rfl Tryd.underlying2 rfl (by kernel_rfl : _ = Value.pointer (some ⟨b7, 7, none⟩)) (HS57.u2.cell 7)) ?_)
   refine seqL2 (by kernel_rfl) ?_
   refine seqK rfl (does_run (run_load rfl Tryd.underlying2 rfl (by kernel_rfl : _ = Value.pointer (some ⟨b7, 8, none⟩)) (HS57.u2.cell 8)) ?_)
   refine seqS2 (a' := ⟨#[(ag_Shot x1 A2 c3), pV b7 0, .slice none 0 0, .func (.func 55) #[] #[], .string (rd ([(⟨#[98, 105, 97, 115]⟩ : ByteArray), (⟨#[100, 97, 114, 107]⟩ : ByteArray), (⟨#[102, 108, 97, 116]⟩ : ByteArray), (⟨#[115, 99, 105, 101, 110, 99, 101]⟩ : ByteArray)] : List ByteArray) vt21), .slice (some ⟨b54, 0, none⟩) ([(⟨(⟨#[75, 73, 78, 68]⟩ : ByteArray), (rd ([(⟨#[98, 105, 97, 115]⟩ : ByteArray), (⟨#[100, 97, 114, 107]⟩ : ByteArray), (⟨#[102, 108, 97, 116]⟩ : ByteArray), (⟨#[115, 99, 105, 101, 110, 99, 101]⟩ : ByteArray)] : List ByteArray) vt21), (⟨#[]⟩ : ByteArray), (⟨#[]⟩ : ByteArray)⟩ : S_Card), vt36, vt42, vt48] : List S_Card).length 4, uV, uV, .slice (some ⟨b15, 0, none⟩) ([(⟨#[98, 105, 97, 115]⟩ : ByteArray), (⟨#[100, 97, 114, 107]⟩ : ByteArray), (⟨#[102, 108, 97, 116]⟩ : ByteArray), (⟨#[115, 99, 105, 101, 110, 99, 101]⟩ : ByteArray)] : List ByteArray).length 4, pV b7 0, iV x1.Kind, iV vt21, pV b15 (0 + (vt21 : Int).toNat * 1), .string (rd ([(⟨#[98, 105, 97, 115]⟩ : ByteArray), (⟨#[100, 97, 114, 107]⟩ : ByteArray), (⟨#[102, 108, 97, 116]⟩ : ByteArray), (⟨#[115, 99, 105, 101, 110, 99, 101]⟩ : ByteArray)] : List ByteArray) vt21), .string (rd ([(⟨#[98, 105, 97, 115]⟩ : ByteArray), (⟨#[100, 97, 114, 107]⟩ : ByteArray), (⟨#[102, 108, 97, 116]⟩ : ByteArray), (⟨#[115, 99, 105, 101, 110, 99, 101]⟩ : ByteArray)] : List ByteArray) vt21), .agg #[.string ⟨#[75, 73, 78, 68]⟩, .string (rd ([(⟨#[98, 105, 97, 115]⟩ : ByteArray), (⟨#[100, 97, 114, 107]⟩ : ByteArray), (⟨#[102, 108, 97, 116]⟩ : ByteArray), (⟨#[115, 99, 105, 101, 110, 99, 101]⟩ : ByteArray)] : List ByteArray) vt21), .string ⟨#[]⟩, .string ⟨#[]⟩], .func (.func 55) #[] #[], pV b7 2, iV x1.Number, (ag_Card vt36), .func (.func 55) #[] #[], pV b7 3, iV x1.Begin, (ag_Card vt42), .func (.func 55) #[] #[], pV b7 4, iV x1.Beats, (ag_Card vt48), .slice (some ⟨b54, 0, none⟩) ([(⟨(⟨#[75, 73, 78, 68]⟩ : ByteArray), (rd ([(⟨#[98, 105, 97, 115]⟩ : ByteArray), (⟨#[100, 97, 114, 107]⟩ : ByteArray), (⟨#[102, 108, 97, 116]⟩ : ByteArray), (⟨#[115, 99, 105, 101, 110, 99, 101]⟩ : ByteArray)] : List ByteArray) vt21), (⟨#[]⟩ : ByteArray), (⟨#[]⟩ : ByteArray)⟩ : S_Card), vt36, vt42, vt48] : List S_Card).length 4, pV b7 0, iV x1.Kind, fV, uV, pV b7 5, pV b7 5, iV x1.Plate.A, pV b7 5, pV b7 6, iV x1.Plate.B, pV b7 5, pV b7 7, iV x1.Plate.C, pV b7 5, pV b7 8, iV x1.Plate.D, .agg #[iV x1.Plate.A, iV x1.Plate.B, iV x1.Plate.C, iV x1.Plate.D], iV 0, uV, uV, uV, uV, uV, uV, uV, uV, uV, uV, uV, uV, uV, uV, uV, uV, uV, uV, uV, uV, uV, uV, uV, uV, uV, uV, uV, uV, uV, uV, uV], []⟩) (by kernel_rfl) ?_
   refine wpList_nil ?_
   refine hK71 _ _ ?_
   refine blockK (fun B72 hx73 hn74 hr75 ho76 hp77 => ?_)
   have hq_ := bind_some h; clear h; obtain ⟨o138, hv209, h⟩ := hq_
   have J210 : ∀ (f199 : FM) (A205 : Option Addr) (c206 : Nat) (s207 : Seg) (out204 : List S_Card) (j203 : Nat → Value) (W201 : World) (a_ : Act), FM.le f50 f199 → some (out204) = some o138 → St t W201 f199 (s207 :: s17 :: [(b7, .cells #[.int .i64 x1.Kind, .int .u64 x1.Seed, .int .i64 x1.Number, .int .i64 x1.Begin, .int .i64 x1.Beats, .int .i64 x1.Plate.A, .int .i64 x1.Plate.B, .int .i64 x1.Plate.C, .int .i64 x1.Plate.D, .int .i64 x1.Seeing, .int .i64 x1.DriftX, .int .i64 x1.DriftY, .int .i64 x1.Lamp, .slice A2 x1.Hits.length c3] 67 (0, 0))] :: H) → Own ty_Card 75 f199 A205 c206 s207 out204 → a_ = ⟨#[(ag_Shot x1 A2 c3), pV b7 0, .slice none 0 0, .func (.func 55) #[] #[], .string (rd ([(⟨#[98, 105, 97, 115]⟩ : ByteArray), (⟨#[100, 97, 114, 107]⟩ : ByteArray), (⟨#[102, 108, 97, 116]⟩ : ByteArray), (⟨#[115, 99, 105, 101, 110, 99, 101]⟩ : ByteArray)] : List ByteArray) vt21), .slice A205 out204.length c206, (j203 0), (j203 1), .slice (some ⟨b15, 0, none⟩) ([(⟨#[98, 105, 97, 115]⟩ : ByteArray), (⟨#[100, 97, 114, 107]⟩ : ByteArray), (⟨#[102, 108, 97, 116]⟩ : ByteArray), (⟨#[115, 99, 105, 101, 110, 99, 101]⟩ : ByteArray)] : List ByteArray).length 4, pV b7 0, iV x1.Kind, iV vt21, pV b15 (0 + (vt21 : Int).toNat * 1), .string (rd ([(⟨#[98, 105, 97, 115]⟩ : ByteArray), (⟨#[100, 97, 114, 107]⟩ : ByteArray), (⟨#[102, 108, 97, 116]⟩ : ByteArray), (⟨#[115, 99, 105, 101, 110, 99, 101]⟩ : ByteArray)] : List ByteArray) vt21), .string (rd ([(⟨#[98, 105, 97, 115]⟩ : ByteArray), (⟨#[100, 97, 114, 107]⟩ : ByteArray), (⟨#[102, 108, 97, 116]⟩ : ByteArray), (⟨#[115, 99, 105, 101, 110, 99, 101]⟩ : ByteArray)] : List ByteArray) vt21), .agg #[.string ⟨#[75, 73, 78, 68]⟩, .string (rd ([(⟨#[98, 105, 97, 115]⟩ : ByteArray), (⟨#[100, 97, 114, 107]⟩ : ByteArray), (⟨#[102, 108, 97, 116]⟩ : ByteArray), (⟨#[115, 99, 105, 101, 110, 99, 101]⟩ : ByteArray)] : List ByteArray) vt21), .string ⟨#[]⟩, .string ⟨#[]⟩], .func (.func 55) #[] #[], pV b7 2, iV x1.Number, (ag_Card vt36), .func (.func 55) #[] #[], pV b7 3, iV x1.Begin, (ag_Card vt42), .func (.func 55) #[] #[], pV b7 4, iV x1.Beats, (ag_Card vt48), .slice (some ⟨b54, 0, none⟩) ([(⟨(⟨#[75, 73, 78, 68]⟩ : ByteArray), (rd ([(⟨#[98, 105, 97, 115]⟩ : ByteArray), (⟨#[100, 97, 114, 107]⟩ : ByteArray), (⟨#[102, 108, 97, 116]⟩ : ByteArray), (⟨#[115, 99, 105, 101, 110, 99, 101]⟩ : ByteArray)] : List ByteArray) vt21), (⟨#[]⟩ : ByteArray), (⟨#[]⟩ : ByteArray)⟩ : S_Card), vt36, vt42, vt48] : List S_Card).length 4, pV b7 0, iV x1.Kind, fV, uV, pV b7 5, pV b7 5, iV x1.Plate.A, pV b7 5, pV b7 6, iV x1.Plate.B, pV b7 5, pV b7 7, iV x1.Plate.C, pV b7 5, pV b7 8, iV x1.Plate.D, .agg #[iV x1.Plate.A, iV x1.Plate.B, iV x1.Plate.C, iV x1.Plate.D], (j203 2), (j203 3), (j203 4), (j203 5), (j203 6), (j203 7), (j203 8), (j203 9), (j203 10), (j203 11), (j203 12), (j203 13), (j203 14), (j203 15), (j203 16), (j203 17), (j203 18), uV, uV, uV, uV, uV, uV, uV, uV, uV, uV, uV, uV, uV, uV, uV], []⟩ → K68 a_ W201 := by
    intro f199 A205 c206 s207 out204 j203 W201 a_ L200 hj211 HS202 HO208 hfr_; subst hfr_
    injection hj211 with hj211; subst hj211; try dsimp only at h
    refine hK69 _ _ ?_
    refine wp_seq_k (fun K217 hK218 => ?_)
    have HS219 := HS202.u2
    have HS220 := HS219.u2
    have HS221 := HS220.u2
    refine heldG (S := Sg t f199 (s17 :: [(b7, .cells #[.int .i64 x1.Kind, .int .u64 x1.Seed, .int .i64 x1.Number, .int .i64 x1.Begin, .int .i64 x1.Beats, .int .i64 x1.Plate.A, .int .i64 x1.Plate.B, .int .i64 x1.Plate.C, .int .i64 x1.Plate.D, .int .i64 x1.Seeing, .int .i64 x1.DriftX, .int .i64 x1.DriftY, .int .i64 x1.Lamp, .slice A2 x1.Hits.length c3] 67 (0, 0))] :: H) [(14, s207)]) (n := 16) (by kernel_rfl) rfl HS221 ?_
    intro W222 HS223
    refine takeG [0, 1, 2] (n := 16) (fuel := 13) (l' := #[true, true, true, false, false, false, false, false, false, false, false, false, false, false, false, false]) (a' := ⟨#[(ag_Shot x1 A2 c3), pV b7 0, .slice none 0 0, .func (.func 55) #[] #[], .string (rd ([(⟨#[98, 105, 97, 115]⟩ : ByteArray), (⟨#[100, 97, 114, 107]⟩ : ByteArray), (⟨#[102, 108, 97, 116]⟩ : ByteArray), (⟨#[115, 99, 105, 101, 110, 99, 101]⟩ : ByteArray)] : List ByteArray) vt21), .slice A205 out204.length c206, (j203 0), (j203 1), .slice (some ⟨b15, 0, none⟩) ([(⟨#[98, 105, 97, 115]⟩ : ByteArray), (⟨#[100, 97, 114, 107]⟩ : ByteArray), (⟨#[102, 108, 97, 116]⟩ : ByteArray), (⟨#[115, 99, 105, 101, 110, 99, 101]⟩ : ByteArray)] : List ByteArray).length 4, pV b7 0, iV x1.Kind, iV vt21, pV b15 (0 + (vt21 : Int).toNat * 1), .string (rd ([(⟨#[98, 105, 97, 115]⟩ : ByteArray), (⟨#[100, 97, 114, 107]⟩ : ByteArray), (⟨#[102, 108, 97, 116]⟩ : ByteArray), (⟨#[115, 99, 105, 101, 110, 99, 101]⟩ : ByteArray)] : List ByteArray) vt21), .string (rd ([(⟨#[98, 105, 97, 115]⟩ : ByteArray), (⟨#[100, 97, 114, 107]⟩ : ByteArray), (⟨#[102, 108, 97, 116]⟩ : ByteArray), (⟨#[115, 99, 105, 101, 110, 99, 101]⟩ : ByteArray)] : List ByteArray) vt21), .agg #[.string ⟨#[75, 73, 78, 68]⟩, .string (rd ([(⟨#[98, 105, 97, 115]⟩ : ByteArray), (⟨#[100, 97, 114, 107]⟩ : ByteArray), (⟨#[102, 108, 97, 116]⟩ : ByteArray), (⟨#[115, 99, 105, 101, 110, 99, 101]⟩ : ByteArray)] : List ByteArray) vt21), .string ⟨#[]⟩, .string ⟨#[]⟩], .func (.func 55) #[] #[], pV b7 2, iV x1.Number, (ag_Card vt36), .func (.func 55) #[] #[], pV b7 3, iV x1.Begin, (ag_Card vt42), .func (.func 55) #[] #[], pV b7 4, iV x1.Beats, (ag_Card vt48), .slice (some ⟨b54, 0, none⟩) ([(⟨(⟨#[75, 73, 78, 68]⟩ : ByteArray), (rd ([(⟨#[98, 105, 97, 115]⟩ : ByteArray), (⟨#[100, 97, 114, 107]⟩ : ByteArray), (⟨#[102, 108, 97, 116]⟩ : ByteArray), (⟨#[115, 99, 105, 101, 110, 99, 101]⟩ : ByteArray)] : List ByteArray) vt21), (⟨#[]⟩ : ByteArray), (⟨#[]⟩ : ByteArray)⟩ : S_Card), vt36, vt42, vt48] : List S_Card).length 4, pV b7 0, iV x1.Kind, fV, uV, pV b7 5, pV b7 5, iV x1.Plate.A, pV b7 5, pV b7 6, iV x1.Plate.B, pV b7 5, pV b7 7, iV x1.Plate.C, pV b7 5, pV b7 8, iV x1.Plate.D, .agg #[iV x1.Plate.A, iV x1.Plate.B, iV x1.Plate.C, iV x1.Plate.D], (j203 2), (j203 3), (j203 4), (j203 5), (j203 6), (j203 7), (j203 8), (j203 9), (j203 10), (j203 11), (j203 12), (j203 13), (j203 14), (j203 15), (j203 16), (j203 17), (j203 18), .slice A205 out204.length c206, .func (.func 55) #[] #[], pV b7 9, uV, uV, uV, uV, uV, uV, uV, uV, uV, uV, uV, uV], []⟩) rfl (by kernel_rfl) (by kernel_rfl) (by kernel_rfl) hnp (Sg.g1 (Sx.of [s207] (FM.le.refl _) HS223) (fun _ => St.only [] HS223 (FM.le.refl _))) ?_
    refine takeGQ 3 [] rfl (by kernel_rfl) (by kernel_rfl) (by kernel_rfl) (by kernel_rfl) (by kernel_rfl) (by kernel_rfl) hnp (Sg.g1 (Sx.of [s207] (FM.le.refl _) HS223) (fun _ => St.only [] HS223 (FM.le.refl _))) (fun w_ hw_ => by obtain ⟨g_, hl_, hS_⟩ := hw_.st; exact run_load rfl Tryd.underlying3 rfl (by kernel_rfl : _ = Value.pointer (some ⟨b7, 9, none⟩)) (hS_.u1.cell 9)) ?_
    refine takeG [5, 6] (n := 12) (fuel := 10) (l' := #[true, true, true, true, false, true, true, false, false, false, false, false, false, false, false, false]) (a' := ⟨#[(ag_Shot x1 A2 c3), pV b7 0, .slice none 0 0, .func (.func 55) #[] #[], .string (rd ([(⟨#[98, 105, 97, 115]⟩ : ByteArray), (⟨#[100, 97, 114, 107]⟩ : ByteArray), (⟨#[102, 108, 97, 116]⟩ : ByteArray), (⟨#[115, 99, 105, 101, 110, 99, 101]⟩ : ByteArray)] : List ByteArray) vt21), .slice A205 out204.length c206, (j203 0), (j203 1), .slice (some ⟨b15, 0, none⟩) ([(⟨#[98, 105, 97, 115]⟩ : ByteArray), (⟨#[100, 97, 114, 107]⟩ : ByteArray), (⟨#[102, 108, 97, 116]⟩ : ByteArray), (⟨#[115, 99, 105, 101, 110, 99, 101]⟩ : ByteArray)] : List ByteArray).length 4, pV b7 0, iV x1.Kind, iV vt21, pV b15 (0 + (vt21 : Int).toNat * 1), .string (rd ([(⟨#[98, 105, 97, 115]⟩ : ByteArray), (⟨#[100, 97, 114, 107]⟩ : ByteArray), (⟨#[102, 108, 97, 116]⟩ : ByteArray), (⟨#[115, 99, 105, 101, 110, 99, 101]⟩ : ByteArray)] : List ByteArray) vt21), .string (rd ([(⟨#[98, 105, 97, 115]⟩ : ByteArray), (⟨#[100, 97, 114, 107]⟩ : ByteArray), (⟨#[102, 108, 97, 116]⟩ : ByteArray), (⟨#[115, 99, 105, 101, 110, 99, 101]⟩ : ByteArray)] : List ByteArray) vt21), .agg #[.string ⟨#[75, 73, 78, 68]⟩, .string (rd ([(⟨#[98, 105, 97, 115]⟩ : ByteArray), (⟨#[100, 97, 114, 107]⟩ : ByteArray), (⟨#[102, 108, 97, 116]⟩ : ByteArray), (⟨#[115, 99, 105, 101, 110, 99, 101]⟩ : ByteArray)] : List ByteArray) vt21), .string ⟨#[]⟩, .string ⟨#[]⟩], .func (.func 55) #[] #[], pV b7 2, iV x1.Number, (ag_Card vt36), .func (.func 55) #[] #[], pV b7 3, iV x1.Begin, (ag_Card vt42), .func (.func 55) #[] #[], pV b7 4, iV x1.Beats, (ag_Card vt48), .slice (some ⟨b54, 0, none⟩) ([(⟨(⟨#[75, 73, 78, 68]⟩ : ByteArray), (rd ([(⟨#[98, 105, 97, 115]⟩ : ByteArray), (⟨#[100, 97, 114, 107]⟩ : ByteArray), (⟨#[102, 108, 97, 116]⟩ : ByteArray), (⟨#[115, 99, 105, 101, 110, 99, 101]⟩ : ByteArray)] : List ByteArray) vt21), (⟨#[]⟩ : ByteArray), (⟨#[]⟩ : ByteArray)⟩ : S_Card), vt36, vt42, vt48] : List S_Card).length 4, pV b7 0, iV x1.Kind, fV, uV, pV b7 5, pV b7 5, iV x1.Plate.A, pV b7 5, pV b7 6, iV x1.Plate.B, pV b7 5, pV b7 7, iV x1.Plate.C, pV b7 5, pV b7 8, iV x1.Plate.D, .agg #[iV x1.Plate.A, iV x1.Plate.B, iV x1.Plate.C, iV x1.Plate.D], (j203 2), (j203 3), (j203 4), (j203 5), (j203 6), (j203 7), (j203 8), (j203 9), (j203 10), (j203 11), (j203 12), (j203 13), (j203 14), (j203 15), (j203 16), (j203 17), (j203 18), .slice A205 out204.length c206, .func (.func 55) #[] #[], pV b7 9, iV x1.Seeing, uV, .func (.func 55) #[] #[], pV b7 10, uV, uV, uV, uV, uV, uV, uV, uV], []⟩) rfl (by kernel_rfl) (by kernel_rfl) (by kernel_rfl) hnp (Sg.g1 (Sx.of [s207] (FM.le.refl _) HS223) (fun _ => St.only [] HS223 (FM.le.refl _))) ?_
    refine takeGQ 7 [] rfl (by kernel_rfl) (by kernel_rfl) (by kernel_rfl) (by kernel_rfl) (by kernel_rfl) (by kernel_rfl) hnp (Sg.g1 (Sx.of [s207] (FM.le.refl _) HS223) (fun _ => St.only [] HS223 (FM.le.refl _))) (fun w_ hw_ => by obtain ⟨g_, hl_, hS_⟩ := hw_.st; exact run_load rfl Tryd.underlying64 rfl (by kernel_rfl : _ = Value.pointer (some ⟨b7, 10, none⟩)) (hS_.u1.cell 10)) ?_
    refine takeG [9, 10] (n := 9) (fuel := 7) (l' := #[true, true, true, true, false, true, true, true, false, true, true, false, false, false, false, false]) (a' := ⟨#[(ag_Shot x1 A2 c3), pV b7 0, .slice none 0 0, .func (.func 55) #[] #[], .string (rd ([(⟨#[98, 105, 97, 115]⟩ : ByteArray), (⟨#[100, 97, 114, 107]⟩ : ByteArray), (⟨#[102, 108, 97, 116]⟩ : ByteArray), (⟨#[115, 99, 105, 101, 110, 99, 101]⟩ : ByteArray)] : List ByteArray) vt21), .slice A205 out204.length c206, (j203 0), (j203 1), .slice (some ⟨b15, 0, none⟩) ([(⟨#[98, 105, 97, 115]⟩ : ByteArray), (⟨#[100, 97, 114, 107]⟩ : ByteArray), (⟨#[102, 108, 97, 116]⟩ : ByteArray), (⟨#[115, 99, 105, 101, 110, 99, 101]⟩ : ByteArray)] : List ByteArray).length 4, pV b7 0, iV x1.Kind, iV vt21, pV b15 (0 + (vt21 : Int).toNat * 1), .string (rd ([(⟨#[98, 105, 97, 115]⟩ : ByteArray), (⟨#[100, 97, 114, 107]⟩ : ByteArray), (⟨#[102, 108, 97, 116]⟩ : ByteArray), (⟨#[115, 99, 105, 101, 110, 99, 101]⟩ : ByteArray)] : List ByteArray) vt21), .string (rd ([(⟨#[98, 105, 97, 115]⟩ : ByteArray), (⟨#[100, 97, 114, 107]⟩ : ByteArray), (⟨#[102, 108, 97, 116]⟩ : ByteArray), (⟨#[115, 99, 105, 101, 110, 99, 101]⟩ : ByteArray)] : List ByteArray) vt21), .agg #[.string ⟨#[75, 73, 78, 68]⟩, .string (rd ([(⟨#[98, 105, 97, 115]⟩ : ByteArray), (⟨#[100, 97, 114, 107]⟩ : ByteArray), (⟨#[102, 108, 97, 116]⟩ : ByteArray), (⟨#[115, 99, 105, 101, 110, 99, 101]⟩ : ByteArray)] : List ByteArray) vt21), .string ⟨#[]⟩, .string ⟨#[]⟩], .func (.func 55) #[] #[], pV b7 2, iV x1.Number, (ag_Card vt36), .func (.func 55) #[] #[], pV b7 3, iV x1.Begin, (ag_Card vt42), .func (.func 55) #[] #[], pV b7 4, iV x1.Beats, (ag_Card vt48), .slice (some ⟨b54, 0, none⟩) ([(⟨(⟨#[75, 73, 78, 68]⟩ : ByteArray), (rd ([(⟨#[98, 105, 97, 115]⟩ : ByteArray), (⟨#[100, 97, 114, 107]⟩ : ByteArray), (⟨#[102, 108, 97, 116]⟩ : ByteArray), (⟨#[115, 99, 105, 101, 110, 99, 101]⟩ : ByteArray)] : List ByteArray) vt21), (⟨#[]⟩ : ByteArray), (⟨#[]⟩ : ByteArray)⟩ : S_Card), vt36, vt42, vt48] : List S_Card).length 4, pV b7 0, iV x1.Kind, fV, uV, pV b7 5, pV b7 5, iV x1.Plate.A, pV b7 5, pV b7 6, iV x1.Plate.B, pV b7 5, pV b7 7, iV x1.Plate.C, pV b7 5, pV b7 8, iV x1.Plate.D, .agg #[iV x1.Plate.A, iV x1.Plate.B, iV x1.Plate.C, iV x1.Plate.D], (j203 2), (j203 3), (j203 4), (j203 5), (j203 6), (j203 7), (j203 8), (j203 9), (j203 10), (j203 11), (j203 12), (j203 13), (j203 14), (j203 15), (j203 16), (j203 17), (j203 18), .slice A205 out204.length c206, .func (.func 55) #[] #[], pV b7 9, iV x1.Seeing, uV, .func (.func 55) #[] #[], pV b7 10, iV x1.DriftX, uV, .func (.func 55) #[] #[], pV b7 11, uV, uV, uV, uV], []⟩) rfl (by kernel_rfl) (by kernel_rfl) (by kernel_rfl) hnp (Sg.g1 (Sx.of [s207] (FM.le.refl _) HS223) (fun _ => St.only [] HS223 (FM.le.refl _))) ?_
    refine takeGQ 11 [] rfl (by kernel_rfl) (by kernel_rfl) (by kernel_rfl) (by kernel_rfl) (by kernel_rfl) (by kernel_rfl) hnp (Sg.g1 (Sx.of [s207] (FM.le.refl _) HS223) (fun _ => St.only [] HS223 (FM.le.refl _))) (fun w_ hw_ => by obtain ⟨g_, hl_, hS_⟩ := hw_.st; exact run_load rfl Tryd.underlying64 rfl (by kernel_rfl : _ = Value.pointer (some ⟨b7, 11, none⟩)) (hS_.u1.cell 11)) ?_
    have hq_ := bind_some h; clear h; obtain ⟨vt224, hc225, h⟩ := hq_
    refine takeGE 4 (by kernel_rfl) rfl (by kernel_rfl) (does_call (f := 55) (args := #[.string ⟨#[83, 69, 69, 73, 78, 71]⟩, .int .i64 x1.Seeing, .string ⟨#[99, 101, 108, 108]⟩]) (by kernel_rfl) (spymake_Cards_1.calls k (⟨#[83, 69, 69, 73, 78, 71]⟩ : ByteArray) x1.Seeing (⟨#[99, 101, 108, 108]⟩ : ByteArray) HS223 (HT.mono (L24.trans (L39.trans (L45.trans (L51.trans L200))))) vt224 hc225) ?_)
    rintro _ W228 ⟨f226, rfl, L227, HS229⟩
    refine ⟨_, rfl, ?_⟩
    refine ⟨(Sg.g1 (Sx.of [s207] L227 HS229) (fun _ => St.only [] HS229 L227)), ?_⟩
    have hq_ := bind_some h; clear h; obtain ⟨vt230, hc231, h⟩ := hq_
    refine takeGE 8 (by kernel_rfl) rfl (by kernel_rfl) (does_call (f := 55) (args := #[.string ⟨#[68, 82, 73, 70, 84, 45, 88]⟩, .int .i64 x1.DriftX, .string ⟨#[115, 117, 98]⟩]) (by kernel_rfl) (spymake_Cards_1.calls k (⟨#[68, 82, 73, 70, 84, 45, 88]⟩ : ByteArray) x1.DriftX (⟨#[115, 117, 98]⟩ : ByteArray) HS229 (HT.mono (L24.trans (L39.trans (L45.trans (L51.trans (L200.trans L227)))))) vt230 hc231) ?_)
    rintro _ W234 ⟨f232, rfl, L233, HS235⟩
    refine ⟨_, rfl, ?_⟩
    refine ⟨(Sg.g1 (Sx.of [s207] (L227.trans L233) HS235) (fun _ => St.only [] HS235 (L227.trans L233))), ?_⟩
    have hq_ := bind_some h; clear h; obtain ⟨vt236, hc237, h⟩ := hq_
    refine takeGE 12 (by kernel_rfl) rfl (by kernel_rfl) (does_call (f := 55) (args := #[.string ⟨#[68, 82, 73, 70, 84, 45, 89]⟩, .int .i64 x1.DriftY, .string ⟨#[115, 117, 98]⟩]) (by kernel_rfl) (spymake_Cards_1.calls k (⟨#[68, 82, 73, 70, 84, 45, 89]⟩ : ByteArray) x1.DriftY (⟨#[115, 117, 98]⟩ : ByteArray) HS235 (HT.mono (L24.trans (L39.trans (L45.trans (L51.trans (L200.trans (L227.trans L233))))))) vt236 hc237) ?_)
    rintro _ W240 ⟨f238, rfl, L239, HS241⟩
    refine ⟨_, rfl, ?_⟩
    refine ⟨(Sg.g1 (Sx.of [s207] (L227.trans (L233.trans L239)) HS241) (fun _ => St.only [] HS241 (L227.trans (L233.trans L239)))), ?_⟩
    refine takeGE 13 (by kernel_rfl) rfl (by kernel_rfl) (does_lit (e := ty_Card) (E := 75) (vs := #[(0, Value.agg #[.string vt224.Key, .string vt224.Value, .string vt224.Unit, .string vt224.Note]), (1, Value.agg #[.string vt230.Key, .string vt230.Value, .string vt230.Unit, .string vt230.Note]), (2, Value.agg #[.string vt236.Key, .string vt236.Value, .string vt236.Unit, .string vt236.Note])]) (cs := #[.string vt224.Key, .string vt224.Value, .string vt224.Unit, .string vt224.Note, .string vt230.Key, .string vt230.Value, .string vt230.Unit, .string vt230.Note, .string vt236.Key, .string vt236.Value, .string vt236.Unit, .string vt236.Note]) (xs := ([vt224, vt230, vt236] : List S_Card)) rfl Tryd.underlying31 (by kernel_rfl) (by kernel_rfl) ⟨[.string vt224.Key, .string vt224.Value, .string vt224.Unit, .string vt224.Note], _, rfl, rfl, ⟨[.string vt230.Key, .string vt230.Value, .string vt230.Unit, .string vt230.Note], _, rfl, rfl, ⟨[.string vt236.Key, .string vt236.Value, .string vt236.Unit, .string vt236.Note], _, rfl, rfl, rfl⟩⟩⟩ rfl HS241 ?_ (by decide))
    intro b242 W243 s244 HS245 _ HO246
    refine ⟨(Sg.g1 (Sx.of [s244, s207] (L227.trans (L233.trans L239)) HS245) (fun _ => St.only [s244] HS245 (L227.trans (L233.trans L239)))), ?_⟩
    have hq_ := guard_some h; clear h; obtain ⟨c248, h⟩ := hq_
    have c248 : (out204.length + 3) * 64 ≤ 140737488355328 := c248
    have HS249 := HS245.u1
    have HS250 := HS249.u1
    refine takeGE 14 (by kernel_rfl) rfl (by kernel_rfl) (does_append1 (e := ty_Card) (E := 75) (xs := out204) (ys := ([vt224, vt230, vt236] : List S_Card)) rfl (by kernel_rfl : _ = Value.slice A205 out204.length c206) (by kernel_rfl : _ = Value.slice (some ⟨b242, 0, none⟩) ([vt224, vt230, vt236] : List S_Card).length 3) Tryd.underlying31 inf75 (HO208.mono (L227.trans (L233.trans L239))) HO246 HS250 c248 (lim63 c248 (by decide)) ?_)
    intro A251 c252 s253 W254 HS255 HO256
    refine ⟨(Sg.g1 (Sx.of [s253] (L227.trans (L233.trans L239)) HS255) (fun hl_ => Bool.noConfusion (show true = false from hl_))), ?_⟩
    refine takeG [15] (n := 1) (fuel := 0) (l' := #[true, true, true, true, true, true, true, true, true, true, true, true, true, true, true, true]) (a' := ⟨#[(ag_Shot x1 A2 c3), pV b7 0, .slice A251 (out204 ++ ([vt224, vt230, vt236] : List S_Card)).length c252, .func (.func 55) #[] #[], .string (rd ([(⟨#[98, 105, 97, 115]⟩ : ByteArray), (⟨#[100, 97, 114, 107]⟩ : ByteArray), (⟨#[102, 108, 97, 116]⟩ : ByteArray), (⟨#[115, 99, 105, 101, 110, 99, 101]⟩ : ByteArray)] : List ByteArray) vt21), .slice A205 out204.length c206, (j203 0), (j203 1), .slice (some ⟨b15, 0, none⟩) ([(⟨#[98, 105, 97, 115]⟩ : ByteArray), (⟨#[100, 97, 114, 107]⟩ : ByteArray), (⟨#[102, 108, 97, 116]⟩ : ByteArray), (⟨#[115, 99, 105, 101, 110, 99, 101]⟩ : ByteArray)] : List ByteArray).length 4, pV b7 0, iV x1.Kind, iV vt21, pV b15 (0 + (vt21 : Int).toNat * 1), .string (rd ([(⟨#[98, 105, 97, 115]⟩ : ByteArray), (⟨#[100, 97, 114, 107]⟩ : ByteArray), (⟨#[102, 108, 97, 116]⟩ : ByteArray), (⟨#[115, 99, 105, 101, 110, 99, 101]⟩ : ByteArray)] : List ByteArray) vt21), .string (rd ([(⟨#[98, 105, 97, 115]⟩ : ByteArray), (⟨#[100, 97, 114, 107]⟩ : ByteArray), (⟨#[102, 108, 97, 116]⟩ : ByteArray), (⟨#[115, 99, 105, 101, 110, 99, 101]⟩ : ByteArray)] : List ByteArray) vt21), .agg #[.string ⟨#[75, 73, 78, 68]⟩, .string (rd ([(⟨#[98, 105, 97, 115]⟩ : ByteArray), (⟨#[100, 97, 114, 107]⟩ : ByteArray), (⟨#[102, 108, 97, 116]⟩ : ByteArray), (⟨#[115, 99, 105, 101, 110, 99, 101]⟩ : ByteArray)] : List ByteArray) vt21), .string ⟨#[]⟩, .string ⟨#[]⟩], .func (.func 55) #[] #[], pV b7 2, iV x1.Number, (ag_Card vt36), .func (.func 55) #[] #[], pV b7 3, iV x1.Begin, (ag_Card vt42), .func (.func 55) #[] #[], pV b7 4, iV x1.Beats, (ag_Card vt48), .slice (some ⟨b54, 0, none⟩) ([(⟨(⟨#[75, 73, 78, 68]⟩ : ByteArray), (rd ([(⟨#[98, 105, 97, 115]⟩ : ByteArray), (⟨#[100, 97, 114, 107]⟩ : ByteArray), (⟨#[102, 108, 97, 116]⟩ : ByteArray), (⟨#[115, 99, 105, 101, 110, 99, 101]⟩ : ByteArray)] : List ByteArray) vt21), (⟨#[]⟩ : ByteArray), (⟨#[]⟩ : ByteArray)⟩ : S_Card), vt36, vt42, vt48] : List S_Card).length 4, pV b7 0, iV x1.Kind, fV, uV, pV b7 5, pV b7 5, iV x1.Plate.A, pV b7 5, pV b7 6, iV x1.Plate.B, pV b7 5, pV b7 7, iV x1.Plate.C, pV b7 5, pV b7 8, iV x1.Plate.D, .agg #[iV x1.Plate.A, iV x1.Plate.B, iV x1.Plate.C, iV x1.Plate.D], (j203 2), (j203 3), (j203 4), (j203 5), (j203 6), (j203 7), (j203 8), (j203 9), (j203 10), (j203 11), (j203 12), (j203 13), (j203 14), (j203 15), (j203 16), (j203 17), (j203 18), .slice A205 out204.length c206, .func (.func 55) #[] #[], pV b7 9, iV x1.Seeing, (ag_Card vt224), .func (.func 55) #[] #[], pV b7 10, iV x1.DriftX, (ag_Card vt230), .func (.func 55) #[] #[], pV b7 11, iV x1.DriftY, (ag_Card vt236), .slice (some ⟨b242, 0, none⟩) ([vt224, vt230, vt236] : List S_Card).length 3, .slice A251 (out204 ++ ([vt224, vt230, vt236] : List S_Card)).length c252], []⟩) rfl (by kernel_rfl) (by kernel_rfl) (by kernel_rfl) hnp (Sg.g1 (Sx.of [s253] (L227.trans (L233.trans L239)) HS255) (fun hl_ => Bool.noConfusion (show true = false from hl_))) ?_
    refine doneG (by kernel_rfl) ?_ _
    refine hK218 _ _ ?_
    refine wp_ret ?_
    refine hret _ _ ?_
    refine ends_still (v := Value.slice A251 (out204 ++ ([vt224, vt230, vt236] : List S_Card)).length c252) (by kernel_rfl) (by kernel_rfl) ?_
    have HS261 := HS255.u2
    have HS262 := HS261.u2
    have HS263 := HS262.drop
    have HS264 := HS263.drop
    injection h with h
    subst h
    exact ⟨f238, A251, c252, s253, rfl, (L24.trans (L39.trans (L45.trans (L51.trans (L200.trans (L227.trans (L233.trans L239))))))), HS264, HO256⟩
   clear h; have h := hv209; clear hv209
   refine loopK (fun n_ a_ w_ => ∃ (f142 : FM) (A148 : Option Addr) (c149 : Nat) (s150 : Seg) (out147 : List S_Card) (x152 : Int) (j146 : Nat → Value), FM.le f50 f142 ∧ St t w_ f142 (s150 :: s17 :: [(b7, .cells #[.int .i64 x1.Kind, .int .u64 x1.Seed, .int .i64 x1.Number, .int .i64 x1.Begin, .int .i64 x1.Beats, .int .i64 x1.Plate.A, .int .i64 x1.Plate.B, .int .i64 x1.Plate.C, .int .i64 x1.Plate.D, .int .i64 x1.Seeing, .int .i64 x1.DriftX, .int .i64 x1.DriftY, .int .i64 x1.Lamp, .slice A2 x1.Hits.length c3] 67 (0, 0))] :: H) ∧ Own ty_Card 75 f142 A148 c149 s150 out147 ∧ spymake_Cards.l0 k x1 n_ out147 x152 = some o138 ∧ a_ = ⟨#[(ag_Shot x1 A2 c3), pV b7 0, .slice none 0 0, .func (.func 55) #[] #[], .string (rd ([(⟨#[98, 105, 97, 115]⟩ : ByteArray), (⟨#[100, 97, 114, 107]⟩ : ByteArray), (⟨#[102, 108, 97, 116]⟩ : ByteArray), (⟨#[115, 99, 105, 101, 110, 99, 101]⟩ : ByteArray)] : List ByteArray) vt21), .slice A148 out147.length c149, (j146 0), (j146 1), .slice (some ⟨b15, 0, none⟩) ([(⟨#[98, 105, 97, 115]⟩ : ByteArray), (⟨#[100, 97, 114, 107]⟩ : ByteArray), (⟨#[102, 108, 97, 116]⟩ : ByteArray), (⟨#[115, 99, 105, 101, 110, 99, 101]⟩ : ByteArray)] : List ByteArray).length 4, pV b7 0, iV x1.Kind, iV vt21, pV b15 (0 + (vt21 : Int).toNat * 1), .string (rd ([(⟨#[98, 105, 97, 115]⟩ : ByteArray), (⟨#[100, 97, 114, 107]⟩ : ByteArray), (⟨#[102, 108, 97, 116]⟩ : ByteArray), (⟨#[115, 99, 105, 101, 110, 99, 101]⟩ : ByteArray)] : List ByteArray) vt21), .string (rd ([(⟨#[98, 105, 97, 115]⟩ : ByteArray), (⟨#[100, 97, 114, 107]⟩ : ByteArray), (⟨#[102, 108, 97, 116]⟩ : ByteArray), (⟨#[115, 99, 105, 101, 110, 99, 101]⟩ : ByteArray)] : List ByteArray) vt21), .agg #[.string ⟨#[75, 73, 78, 68]⟩, .string (rd ([(⟨#[98, 105, 97, 115]⟩ : ByteArray), (⟨#[100, 97, 114, 107]⟩ : ByteArray), (⟨#[102, 108, 97, 116]⟩ : ByteArray), (⟨#[115, 99, 105, 101, 110, 99, 101]⟩ : ByteArray)] : List ByteArray) vt21), .string ⟨#[]⟩, .string ⟨#[]⟩], .func (.func 55) #[] #[], pV b7 2, iV x1.Number, (ag_Card vt36), .func (.func 55) #[] #[], pV b7 3, iV x1.Begin, (ag_Card vt42), .func (.func 55) #[] #[], pV b7 4, iV x1.Beats, (ag_Card vt48), .slice (some ⟨b54, 0, none⟩) ([(⟨(⟨#[75, 73, 78, 68]⟩ : ByteArray), (rd ([(⟨#[98, 105, 97, 115]⟩ : ByteArray), (⟨#[100, 97, 114, 107]⟩ : ByteArray), (⟨#[102, 108, 97, 116]⟩ : ByteArray), (⟨#[115, 99, 105, 101, 110, 99, 101]⟩ : ByteArray)] : List ByteArray) vt21), (⟨#[]⟩ : ByteArray), (⟨#[]⟩ : ByteArray)⟩ : S_Card), vt36, vt42, vt48] : List S_Card).length 4, pV b7 0, iV x1.Kind, fV, uV, pV b7 5, pV b7 5, iV x1.Plate.A, pV b7 5, pV b7 6, iV x1.Plate.B, pV b7 5, pV b7 7, iV x1.Plate.C, pV b7 5, pV b7 8, iV x1.Plate.D, .agg #[iV x1.Plate.A, iV x1.Plate.B, iV x1.Plate.C, iV x1.Plate.D], iV x152, (j146 2), (j146 3), (j146 4), (j146 5), (j146 6), (j146 7), (j146 8), (j146 9), (j146 10), (j146 11), (j146 12), (j146 13), (j146 14), (j146 15), (j146 16), (j146 17), uV, uV, uV, uV, uV, uV, uV, uV, uV, uV, uV, uV, uV, uV, uV], []⟩) k ⟨f50, (some ⟨b54, 0, none⟩), 4, s56, ([(⟨(⟨#[75, 73, 78, 68]⟩ : ByteArray), (rd ([(⟨#[98, 105, 97, 115]⟩ : ByteArray), (⟨#[100, 97, 114, 107]⟩ : ByteArray), (⟨#[102, 108, 97, 116]⟩ : ByteArray), (⟨#[115, 99, 105, 101, 110, 99, 101]⟩ : ByteArray)] : List ByteArray) vt21), (⟨#[]⟩ : ByteArray), (⟨#[]⟩ : ByteArray)⟩ : S_Card), vt36, vt42, vt48] : List S_Card), 0, (fun i_ => [undef, undef, undef, undef, undef, undef, undef, undef, undef, undef, undef, undef, undef, undef, undef, undef, undef, undef].getD i_ undef), (FM.le.refl _), HS57, HO58, h, (by kernel_rfl)⟩ ?_
   clear h
   rintro n141 _ W144 ⟨f142, A148, c149, s150, out147, x152, j146, L143, HS145, HO151, h, rfl⟩ K139 hK140
   obtain _ | n141 := n141
   · exact nomatch h
   simp only [spymake_Cards.l0] at h
   refine wp_seq_k (fun K153 hK154 => ?_)
   refine wp_region_lit ?_
   refine seqS1 (a' := ⟨#[(ag_Shot x1 A2 c3), pV b7 0, .slice none 0 0, .func (.func 55) #[] #[], .string (rd ([(⟨#[98, 105, 97, 115]⟩ : ByteArray), (⟨#[100, 97, 114, 107]⟩ : ByteArray), (⟨#[102, 108, 97, 116]⟩ : ByteArray), (⟨#[115, 99, 105, 101, 110, 99, 101]⟩ : ByteArray)] : List ByteArray) vt21), .slice A148 out147.length c149, (j146 0), (j146 1), .slice (some ⟨b15, 0, none⟩) ([(⟨#[98, 105, 97, 115]⟩ : ByteArray), (⟨#[100, 97, 114, 107]⟩ : ByteArray), (⟨#[102, 108, 97, 116]⟩ : ByteArray), (⟨#[115, 99, 105, 101, 110, 99, 101]⟩ : ByteArray)] : List ByteArray).length 4, pV b7 0, iV x1.Kind, iV vt21, pV b15 (0 + (vt21 : Int).toNat * 1), .string (rd ([(⟨#[98, 105, 97, 115]⟩ : ByteArray), (⟨#[100, 97, 114, 107]⟩ : ByteArray), (⟨#[102, 108, 97, 116]⟩ : ByteArray), (⟨#[115, 99, 105, 101, 110, 99, 101]⟩ : ByteArray)] : List ByteArray) vt21), .string (rd ([(⟨#[98, 105, 97, 115]⟩ : ByteArray), (⟨#[100, 97, 114, 107]⟩ : ByteArray), (⟨#[102, 108, 97, 116]⟩ : ByteArray), (⟨#[115, 99, 105, 101, 110, 99, 101]⟩ : ByteArray)] : List ByteArray) vt21), .agg #[.string ⟨#[75, 73, 78, 68]⟩, .string (rd ([(⟨#[98, 105, 97, 115]⟩ : ByteArray), (⟨#[100, 97, 114, 107]⟩ : ByteArray), (⟨#[102, 108, 97, 116]⟩ : ByteArray), (⟨#[115, 99, 105, 101, 110, 99, 101]⟩ : ByteArray)] : List ByteArray) vt21), .string ⟨#[]⟩, .string ⟨#[]⟩], .func (.func 55) #[] #[], pV b7 2, iV x1.Number, (ag_Card vt36), .func (.func 55) #[] #[], pV b7 3, iV x1.Begin, (ag_Card vt42), .func (.func 55) #[] #[], pV b7 4, iV x1.Beats, (ag_Card vt48), .slice (some ⟨b54, 0, none⟩) ([(⟨(⟨#[75, 73, 78, 68]⟩ : ByteArray), (rd ([(⟨#[98, 105, 97, 115]⟩ : ByteArray), (⟨#[100, 97, 114, 107]⟩ : ByteArray), (⟨#[102, 108, 97, 116]⟩ : ByteArray), (⟨#[115, 99, 105, 101, 110, 99, 101]⟩ : ByteArray)] : List ByteArray) vt21), (⟨#[]⟩ : ByteArray), (⟨#[]⟩ : ByteArray)⟩ : S_Card), vt36, vt42, vt48] : List S_Card).length 4, pV b7 0, iV x1.Kind, fV, uV, pV b7 5, pV b7 5, iV x1.Plate.A, pV b7 5, pV b7 6, iV x1.Plate.B, pV b7 5, pV b7 7, iV x1.Plate.C, pV b7 5, pV b7 8, iV x1.Plate.D, .agg #[iV x1.Plate.A, iV x1.Plate.B, iV x1.Plate.C, iV x1.Plate.D], iV x152, .bool (decide (x152 < 4)), (j146 3), (j146 4), (j146 5), (j146 6), (j146 7), (j146 8), (j146 9), (j146 10), (j146 11), (j146 12), (j146 13), (j146 14), (j146 15), (j146 16), (j146 17), uV, uV, uV, uV, uV, uV, uV, uV, uV, uV, uV, uV, uV, uV, uV], []⟩) (by kernel_rfl) ?_
   refine wpList_nil ?_
   refine hK154 _ _ ?_
   refine wp_seq_k (fun K155 hK156 => ?_)
   have hq_ := ite_some h; clear h; rcases hq_ with ⟨c158, h⟩ | ⟨c158, h⟩
   · have c158 : x152 < 4 := c158
     refine wpRwI 47 (x := (decide (x152 < 4))) (v := true) (by kernel_rfl) (decide_eq_true c158) ?_
     refine condT (by kernel_rfl) ?_
     refine wp_skip ?_
     refine hK156 _ _ ?_
     refine wp_seq_k (fun K159 hK160 => ?_)
     refine blockK (fun B161 hx162 hn163 hr164 ho165 hp166 => ?_)
     refine wp_seq_k (fun K168 hK169 => ?_)
     refine wp_region_lit ?_
     have hq_ := guard_some h; clear h; obtain ⟨c170, h⟩ := hq_
     have c170 : 0 ≤ x152 := c170
     refine seqL1 (by kernel_rfl) ?_
     refine seqK rfl (does_run (run_arr_int rfl Tryd.underlying107 (by kernel_rfl) Tryd.underlying2 (by kernel_rfl : _ = Value.agg #[.int .i64 x1.Plate.A, .int .i64 x1.Plate.B, .int .i64 x1.Plate.C, .int .i64 x1.Plate.D]) (by kernel_rfl : _ = Value.int .i64 x152) (xs := [x1.Plate.A, x1.Plate.B, x1.Plate.C, x1.Plate.D]) rfl c170 c158 rfl W144) ?_)
     refine seqS2 (a' := ⟨#[(ag_Shot x1 A2 c3), pV b7 0, .slice none 0 0, .func (.func 55) #[] #[], .string (rd ([(⟨#[98, 105, 97, 115]⟩ : ByteArray), (⟨#[100, 97, 114, 107]⟩ : ByteArray), (⟨#[102, 108, 97, 116]⟩ : ByteArray), (⟨#[115, 99, 105, 101, 110, 99, 101]⟩ : ByteArray)] : List ByteArray) vt21), .slice A148 out147.length c149, iV x152, iV (rd [x1.Plate.A, x1.Plate.B, x1.Plate.C, x1.Plate.D] x152), .slice (some ⟨b15, 0, none⟩) ([(⟨#[98, 105, 97, 115]⟩ : ByteArray), (⟨#[100, 97, 114, 107]⟩ : ByteArray), (⟨#[102, 108, 97, 116]⟩ : ByteArray), (⟨#[115, 99, 105, 101, 110, 99, 101]⟩ : ByteArray)] : List ByteArray).length 4, pV b7 0, iV x1.Kind, iV vt21, pV b15 (0 + (vt21 : Int).toNat * 1), .string (rd ([(⟨#[98, 105, 97, 115]⟩ : ByteArray), (⟨#[100, 97, 114, 107]⟩ : ByteArray), (⟨#[102, 108, 97, 116]⟩ : ByteArray), (⟨#[115, 99, 105, 101, 110, 99, 101]⟩ : ByteArray)] : List ByteArray) vt21), .string (rd ([(⟨#[98, 105, 97, 115]⟩ : ByteArray), (⟨#[100, 97, 114, 107]⟩ : ByteArray), (⟨#[102, 108, 97, 116]⟩ : ByteArray), (⟨#[115, 99, 105, 101, 110, 99, 101]⟩ : ByteArray)] : List ByteArray) vt21), .agg #[.string ⟨#[75, 73, 78, 68]⟩, .string (rd ([(⟨#[98, 105, 97, 115]⟩ : ByteArray), (⟨#[100, 97, 114, 107]⟩ : ByteArray), (⟨#[102, 108, 97, 116]⟩ : ByteArray), (⟨#[115, 99, 105, 101, 110, 99, 101]⟩ : ByteArray)] : List ByteArray) vt21), .string ⟨#[]⟩, .string ⟨#[]⟩], .func (.func 55) #[] #[], pV b7 2, iV x1.Number, (ag_Card vt36), .func (.func 55) #[] #[], pV b7 3, iV x1.Begin, (ag_Card vt42), .func (.func 55) #[] #[], pV b7 4, iV x1.Beats, (ag_Card vt48), .slice (some ⟨b54, 0, none⟩) ([(⟨(⟨#[75, 73, 78, 68]⟩ : ByteArray), (rd ([(⟨#[98, 105, 97, 115]⟩ : ByteArray), (⟨#[100, 97, 114, 107]⟩ : ByteArray), (⟨#[102, 108, 97, 116]⟩ : ByteArray), (⟨#[115, 99, 105, 101, 110, 99, 101]⟩ : ByteArray)] : List ByteArray) vt21), (⟨#[]⟩ : ByteArray), (⟨#[]⟩ : ByteArray)⟩ : S_Card), vt36, vt42, vt48] : List S_Card).length 4, pV b7 0, iV x1.Kind, fV, uV, pV b7 5, pV b7 5, iV x1.Plate.A, pV b7 5, pV b7 6, iV x1.Plate.B, pV b7 5, pV b7 7, iV x1.Plate.C, pV b7 5, pV b7 8, iV x1.Plate.D, .agg #[iV x1.Plate.A, iV x1.Plate.B, iV x1.Plate.C, iV x1.Plate.D], iV x152, tV, iV x152, iV (rd [x1.Plate.A, x1.Plate.B, x1.Plate.C, x1.Plate.D] x152), (j146 5), (j146 6), (j146 7), (j146 8), (j146 9), (j146 10), (j146 11), (j146 12), (j146 13), (j146 14), (j146 15), (j146 16), (j146 17), uV, uV, uV, uV, uV, uV, uV, uV, uV, uV, uV, uV, uV, uV, uV], []⟩) (by kernel_rfl) ?_
     refine wpList_nil ?_
     refine hK169 _ _ ?_
     refine wp_region_lit ?_
     refine seqL5 (by kernel_rfl) ?_
     refine seqK rfl (does_lit (e := (tInt .u8)) (E := 5) (vs := #[(0, Value.int .u8 (u8 (w64 (65 + x152))))]) (cs := #[.int .u8 (u8 (w64 (65 + x152)))]) (xs := ([u8 (w64 (65 + x152))] : List Int)) rfl Tryd.underlying23 (by kernel_rfl) (by kernel_rfl) ⟨[.int .u8 (u8 (w64 (65 + x152)))], _, rfl, rfl, rfl⟩ rfl HS145 ?_ (by decide))
     intro b171 W172 s173 HS174 _ HO175
     refine seqK rfl (does_run (run_bstr (f := _) rfl Tryd.underlying23 Tryd.underlying5 Tryd.underlying9 (by kernel_rfl : _ = Value.slice (some ⟨b171, 0, none⟩) ([u8 (w64 (65 + x152))] : List Int).length 1) ((HO175.mono (FM.le.refl _)).rc HS174)) ?_)
     have hq_ := guard_some h; clear h; obtain ⟨c177, h⟩ := hq_
     have c177 : (⟨#[80, 76, 65, 84, 69, 45]⟩ : ByteArray).size + (bstr ([u8 (w64 (65 + x152))] : List Int)).size ≤ 9223372036854775807 := c177
     refine seqK rfl (does_run (run_concat rfl (by kernel_rfl : _ = Value.string ⟨#[80, 76, 65, 84, 69, 45]⟩) (by kernel_rfl : _ = Value.string (bstr ([u8 (w64 (65 + x152))] : List Int))) c177 W172) ?_)
     have hq_ := bind_some h; clear h; obtain ⟨vt178, hc179, h⟩ := hq_
     refine seqL1 (by kernel_rfl) ?_
     refine seqK rfl (does_call (f := 55) (args := #[.string ((⟨#[80, 76, 65, 84, 69, 45]⟩ : ByteArray) ++ (bstr ([u8 (w64 (65 + x152))] : List Int))), .int .i64 (rd [x1.Plate.A, x1.Plate.B, x1.Plate.C, x1.Plate.D] x152), .string ⟨#[]⟩]) (by kernel_rfl) (spymake_Cards_1.calls k ((⟨#[80, 76, 65, 84, 69, 45]⟩ : ByteArray) ++ (bstr ([u8 (w64 (65 + x152))] : List Int))) (rd [x1.Plate.A, x1.Plate.B, x1.Plate.C, x1.Plate.D] x152) (⟨#[]⟩ : ByteArray) HS174 (HT.mono (L24.trans (L39.trans (L45.trans (L51.trans L143))))) vt178 hc179) ?_)
     rintro _ W182 ⟨f180, rfl, L181, HS183⟩
     refine ⟨_, rfl, ?_⟩
     refine seqK rfl (does_lit (e := ty_Card) (E := 75) (vs := #[(0, Value.agg #[.string vt178.Key, .string vt178.Value, .string vt178.Unit, .string vt178.Note])]) (cs := #[.string vt178.Key, .string vt178.Value, .string vt178.Unit, .string vt178.Note]) (xs := ([vt178] : List S_Card)) rfl Tryd.underlying31 (by kernel_rfl) (by kernel_rfl) ⟨[.string vt178.Key, .string vt178.Value, .string vt178.Unit, .string vt178.Note], _, rfl, rfl, rfl⟩ rfl HS183 ?_ (by decide))
     intro b184 W185 s186 HS187 _ HO188
     have hq_ := guard_some h; clear h; obtain ⟨c190, h⟩ := hq_
     have c190 : (out147.length + 1) * 64 ≤ 140737488355328 := c190
     have HS191 := HS187.u2
     have HS192 := HS191.u1
     refine seqK rfl (does_append1 (e := ty_Card) (E := 75) (xs := out147) (ys := ([vt178] : List S_Card)) rfl (by kernel_rfl : _ = Value.slice A148 out147.length c149) (by kernel_rfl : _ = Value.slice (some ⟨b184, 0, none⟩) ([vt178] : List S_Card).length 1) Tryd.underlying31 inf75 (HO151.mono L181) HO188 HS192 c190 (lim63 c190 (by decide)) ?_)
     intro A193 c194 s195 W196 HS197 HO198
     refine seqS1 (a' := ⟨#[(ag_Shot x1 A2 c3), pV b7 0, .slice none 0 0, .func (.func 55) #[] #[], .string (rd ([(⟨#[98, 105, 97, 115]⟩ : ByteArray), (⟨#[100, 97, 114, 107]⟩ : ByteArray), (⟨#[102, 108, 97, 116]⟩ : ByteArray), (⟨#[115, 99, 105, 101, 110, 99, 101]⟩ : ByteArray)] : List ByteArray) vt21), .slice A193 (out147 ++ ([vt178] : List S_Card)).length c194, iV x152, iV (rd [x1.Plate.A, x1.Plate.B, x1.Plate.C, x1.Plate.D] x152), .slice (some ⟨b15, 0, none⟩) ([(⟨#[98, 105, 97, 115]⟩ : ByteArray), (⟨#[100, 97, 114, 107]⟩ : ByteArray), (⟨#[102, 108, 97, 116]⟩ : ByteArray), (⟨#[115, 99, 105, 101, 110, 99, 101]⟩ : ByteArray)] : List ByteArray).length 4, pV b7 0, iV x1.Kind, iV vt21, pV b15 (0 + (vt21 : Int).toNat * 1), .string (rd ([(⟨#[98, 105, 97, 115]⟩ : ByteArray), (⟨#[100, 97, 114, 107]⟩ : ByteArray), (⟨#[102, 108, 97, 116]⟩ : ByteArray), (⟨#[115, 99, 105, 101, 110, 99, 101]⟩ : ByteArray)] : List ByteArray) vt21), .string (rd ([(⟨#[98, 105, 97, 115]⟩ : ByteArray), (⟨#[100, 97, 114, 107]⟩ : ByteArray), (⟨#[102, 108, 97, 116]⟩ : ByteArray), (⟨#[115, 99, 105, 101, 110, 99, 101]⟩ : ByteArray)] : List ByteArray) vt21), .agg #[.string ⟨#[75, 73, 78, 68]⟩, .string (rd ([(⟨#[98, 105, 97, 115]⟩ : ByteArray), (⟨#[100, 97, 114, 107]⟩ : ByteArray), (⟨#[102, 108, 97, 116]⟩ : ByteArray), (⟨#[115, 99, 105, 101, 110, 99, 101]⟩ : ByteArray)] : List ByteArray) vt21), .string ⟨#[]⟩, .string ⟨#[]⟩], .func (.func 55) #[] #[], pV b7 2, iV x1.Number, (ag_Card vt36), .func (.func 55) #[] #[], pV b7 3, iV x1.Begin, (ag_Card vt42), .func (.func 55) #[] #[], pV b7 4, iV x1.Beats, (ag_Card vt48), .slice (some ⟨b54, 0, none⟩) ([(⟨(⟨#[75, 73, 78, 68]⟩ : ByteArray), (rd ([(⟨#[98, 105, 97, 115]⟩ : ByteArray), (⟨#[100, 97, 114, 107]⟩ : ByteArray), (⟨#[102, 108, 97, 116]⟩ : ByteArray), (⟨#[115, 99, 105, 101, 110, 99, 101]⟩ : ByteArray)] : List ByteArray) vt21), (⟨#[]⟩ : ByteArray), (⟨#[]⟩ : ByteArray)⟩ : S_Card), vt36, vt42, vt48] : List S_Card).length 4, pV b7 0, iV x1.Kind, fV, uV, pV b7 5, pV b7 5, iV x1.Plate.A, pV b7 5, pV b7 6, iV x1.Plate.B, pV b7 5, pV b7 7, iV x1.Plate.C, pV b7 5, pV b7 8, iV x1.Plate.D, .agg #[iV x1.Plate.A, iV x1.Plate.B, iV x1.Plate.C, iV x1.Plate.D], iV x152, tV, iV x152, iV (rd [x1.Plate.A, x1.Plate.B, x1.Plate.C, x1.Plate.D] x152), .slice A148 out147.length c149, .func (.func 55) #[] #[], iV x152, iV (w64 (65 + x152)), .int .u8 (u8 (w64 (65 + x152))), .slice (some ⟨b171, 0, none⟩) ([u8 (w64 (65 + x152))] : List Int).length 1, .string (bstr ([u8 (w64 (65 + x152))] : List Int)), .string ((⟨#[80, 76, 65, 84, 69, 45]⟩ : ByteArray) ++ (bstr ([u8 (w64 (65 + x152))] : List Int))), iV (rd [x1.Plate.A, x1.Plate.B, x1.Plate.C, x1.Plate.D] x152), (ag_Card vt178), .slice (some ⟨b184, 0, none⟩) ([vt178] : List S_Card).length 1, .slice A193 (out147 ++ ([vt178] : List S_Card)).length c194, (j146 17), uV, uV, uV, uV, uV, uV, uV, uV, uV, uV, uV, uV, uV, uV, uV], []⟩) (by kernel_rfl) ?_
     refine wpList_nil ?_
     refine hn163 _ _ ?_
     refine hK160 _ _ ?_
     refine wp_region_lit ?_
     refine seqS2 (a' := ⟨#[(ag_Shot x1 A2 c3), pV b7 0, .slice none 0 0, .func (.func 55) #[] #[], .string (rd ([(⟨#[98, 105, 97, 115]⟩ : ByteArray), (⟨#[100, 97, 114, 107]⟩ : ByteArray), (⟨#[102, 108, 97, 116]⟩ : ByteArray), (⟨#[115, 99, 105, 101, 110, 99, 101]⟩ : ByteArray)] : List ByteArray) vt21), .slice A193 (out147 ++ ([vt178] : List S_Card)).length c194, iV x152, iV (rd [x1.Plate.A, x1.Plate.B, x1.Plate.C, x1.Plate.D] x152), .slice (some ⟨b15, 0, none⟩) ([(⟨#[98, 105, 97, 115]⟩ : ByteArray), (⟨#[100, 97, 114, 107]⟩ : ByteArray), (⟨#[102, 108, 97, 116]⟩ : ByteArray), (⟨#[115, 99, 105, 101, 110, 99, 101]⟩ : ByteArray)] : List ByteArray).length 4, pV b7 0, iV x1.Kind, iV vt21, pV b15 (0 + (vt21 : Int).toNat * 1), .string (rd ([(⟨#[98, 105, 97, 115]⟩ : ByteArray), (⟨#[100, 97, 114, 107]⟩ : ByteArray), (⟨#[102, 108, 97, 116]⟩ : ByteArray), (⟨#[115, 99, 105, 101, 110, 99, 101]⟩ : ByteArray)] : List ByteArray) vt21), .string (rd ([(⟨#[98, 105, 97, 115]⟩ : ByteArray), (⟨#[100, 97, 114, 107]⟩ : ByteArray), (⟨#[102, 108, 97, 116]⟩ : ByteArray), (⟨#[115, 99, 105, 101, 110, 99, 101]⟩ : ByteArray)] : List ByteArray) vt21), .agg #[.string ⟨#[75, 73, 78, 68]⟩, .string (rd ([(⟨#[98, 105, 97, 115]⟩ : ByteArray), (⟨#[100, 97, 114, 107]⟩ : ByteArray), (⟨#[102, 108, 97, 116]⟩ : ByteArray), (⟨#[115, 99, 105, 101, 110, 99, 101]⟩ : ByteArray)] : List ByteArray) vt21), .string ⟨#[]⟩, .string ⟨#[]⟩], .func (.func 55) #[] #[], pV b7 2, iV x1.Number, (ag_Card vt36), .func (.func 55) #[] #[], pV b7 3, iV x1.Begin, (ag_Card vt42), .func (.func 55) #[] #[], pV b7 4, iV x1.Beats, (ag_Card vt48), .slice (some ⟨b54, 0, none⟩) ([(⟨(⟨#[75, 73, 78, 68]⟩ : ByteArray), (rd ([(⟨#[98, 105, 97, 115]⟩ : ByteArray), (⟨#[100, 97, 114, 107]⟩ : ByteArray), (⟨#[102, 108, 97, 116]⟩ : ByteArray), (⟨#[115, 99, 105, 101, 110, 99, 101]⟩ : ByteArray)] : List ByteArray) vt21), (⟨#[]⟩ : ByteArray), (⟨#[]⟩ : ByteArray)⟩ : S_Card), vt36, vt42, vt48] : List S_Card).length 4, pV b7 0, iV x1.Kind, fV, uV, pV b7 5, pV b7 5, iV x1.Plate.A, pV b7 5, pV b7 6, iV x1.Plate.B, pV b7 5, pV b7 7, iV x1.Plate.C, pV b7 5, pV b7 8, iV x1.Plate.D, .agg #[iV x1.Plate.A, iV x1.Plate.B, iV x1.Plate.C, iV x1.Plate.D], iV (w64 (x152 + 1)), tV, iV x152, iV (rd [x1.Plate.A, x1.Plate.B, x1.Plate.C, x1.Plate.D] x152), .slice A148 out147.length c149, .func (.func 55) #[] #[], iV x152, iV (w64 (65 + x152)), .int .u8 (u8 (w64 (65 + x152))), .slice (some ⟨b171, 0, none⟩) ([u8 (w64 (65 + x152))] : List Int).length 1, .string (bstr ([u8 (w64 (65 + x152))] : List Int)), .string ((⟨#[80, 76, 65, 84, 69, 45]⟩ : ByteArray) ++ (bstr ([u8 (w64 (65 + x152))] : List Int))), iV (rd [x1.Plate.A, x1.Plate.B, x1.Plate.C, x1.Plate.D] x152), (ag_Card vt178), .slice (some ⟨b184, 0, none⟩) ([vt178] : List S_Card).length 1, .slice A193 (out147 ++ ([vt178] : List S_Card)).length c194, iV (w64 (x152 + 1)), uV, uV, uV, uV, uV, uV, uV, uV, uV, uV, uV, uV, uV, uV, uV], []⟩) (by kernel_rfl) ?_
     refine wpList_nil ?_
     refine hK140 n141 _ _ (Nat.lt_succ_self _) ?_
     have HS212 := HS197.u3
     have HS213 := HS212.u3
     have HS214 := HS213.u2
     have HS215 := HS214.u3
     have HS216 := HS215.drop
     exact ⟨f180, A193, c194, s195, (out147 ++ ([vt178] : List S_Card)), (w64 (x152 + 1)), (fun i_ => [Value.int .i64 x152, Value.int .i64 (rd [x1.Plate.A, x1.Plate.B, x1.Plate.C, x1.Plate.D] x152), Value.bool true, Value.int .i64 x152, Value.int .i64 (rd [x1.Plate.A, x1.Plate.B, x1.Plate.C, x1.Plate.D] x152), Value.slice A148 out147.length c149, Value.func (.func 55) #[] #[], Value.int .i64 x152, Value.int .i64 (w64 (65 + x152)), Value.int .u8 (u8 (w64 (65 + x152))), Value.slice (some ⟨b171, 0, none⟩) ([u8 (w64 (65 + x152))] : List Int).length 1, Value.string (bstr ([u8 (w64 (65 + x152))] : List Int)), Value.string ((⟨#[80, 76, 65, 84, 69, 45]⟩ : ByteArray) ++ (bstr ([u8 (w64 (65 + x152))] : List Int))), Value.int .i64 (rd [x1.Plate.A, x1.Plate.B, x1.Plate.C, x1.Plate.D] x152), (ag_Card vt178), Value.slice (some ⟨b184, 0, none⟩) ([vt178] : List S_Card).length 1, Value.slice A193 (out147 ++ ([vt178] : List S_Card)).length c194, Value.int .i64 (w64 (x152 + 1))].getD i_ undef), (L143.trans L181), HS216, HO198, h, (by kernel_rfl)⟩
   · have c158 : ¬ (x152 < 4) := c158
     refine wpRwI 47 (x := (decide (x152 < 4))) (v := false) (by kernel_rfl) (decide_eq_false c158) ?_
     refine condF (by kernel_rfl) ?_
     refine wp_exit ?_
     refine hx73 _ _ ?_
     exact J210 f142 A148 c149 s150 out147 (fun i_ => [(j146 0), (j146 1), Value.int .i64 x152, Value.bool false, (j146 3), (j146 4), (j146 5), (j146 6), (j146 7), (j146 8), (j146 9), (j146 10), (j146 11), (j146 12), (j146 13), (j146 14), (j146 15), (j146 16), (j146 17)].getD i_ undef) W144 _ L143 h HS145 HO151 (by kernel_rfl)

end Go.Sp.B1
