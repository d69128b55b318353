import Derived.Test.YtpdemjoehkgohaaProg
import Derived.Test.YtpdemjoehkgohaaSpCopy
import Derived.Test.YtpdemjoehkgohaaFM4
import Derived.Test.YtpdemjoehkgohaaSpSort
import Derived.Test.YtpdemjoehkgohaaShelf
import Derived.Test.YtpdemjoehkgohaaSpMapR
import Derived.Test.YtpdemjoehkgohaaSpKeys
import Derived.Test.YtpdemjoehkgohaaSpRound
import Derived.Test.YtpdemjoehkgohaaKM4n0
import Derived.Test.YtpdemjoehkgohaaKM4n1
import Derived.Test.YtpdemjoehkgohaaKM4n2
import Derived.Test.YtpdemjoehkgohaaKM4n3
import Derived.Test.YtpdemjoehkgohaaKM4n4
namespace Go.Sp.M4
open Go Go.Sp Go.Proofs
set_option linter.unusedVariables false
attribute [local irreducible] wpList AnyL Code.wp Calls Does Code.wpIn wpListIn CallsIn bodyPostM LeavesInM
set_option maxRecDepth 100000 in
set_option maxHeartbeats 4000000 in
theorem catalog_state_apply.calls (k : Nat) (A1 : Option Addr) (c2 : Nat) (s3 : Seg) (A8 : Option Addr) (c9 : Nat) (s5 : List (Int × S_Row)) (l7 : List S_Change) {t w : World} {f : FM} {H : List Seg} (HS : St t w f (s3 :: H)) (HO4 : OwnM (mty ty_Row) 100085 f A1 c2 s3 s5) (HR10 : SlR ty_Change f A8 c9 l7) (rr1 : Int) (rr2 : List (Int × S_Row)) (h : catalog_state_apply k s5 l7 = some (rr1, rr2)) :
    Calls Try.prog 31 #[.map (mb A1), .slice A8 l7.length c9] w (fun e w' => ∃ (g : FM) (s373 : Seg), e = .returned (Value.int .i64 rr1) ∧ FM.le f g ∧ St t w' g (s373 :: H) ∧ OwnM (mty ty_Row) 100085 g A1 c2 s373 rr2 ∧ True) := by
 unfold catalog_state_apply at h
 refine enter Try.func31 rfl (tm := #[.map (mb A1), .slice A8 l7.length c9, uV, uV, uV, uV, uV, uV, uV, uV, uV, uV, uV, uV, uV, uV, uV, uV, uV, uV, uV, uV, uV, uV, uV, uV, uV, uV, uV, uV, uV, uV, uV, uV, uV, uV, uV, uV, uV, uV, uV, uV, uV, uV, uV, uV, uV, uV, uV, uV, uV, uV, uV, uV, uV, uV, uV, uV, uV, uV, uV, uV, uV, uV, uV, uV, uV, uV, uV, uV, uV, uV, uV, uV, uV, uV, uV, uV, uV, uV, uV, uV, uV, uV, uV, uV, uV, uV, uV, uV]) (by kernel_rfl) ?_
 intro B hret hnor hnp
 refine wp_seq_k (fun K11 hK12 => ?_)
 refine wp_region_lit ?_
 refine seqL1 (by kernel_rfl) ?_
 refine wpList_nil ?_
 refine hK12 _ _ ?_
 refine wp_seq_k (fun K13 hK14 => ?_)
 refine wp_seq_k (fun K15 hK16 => ?_)
 refine wp_region_lit ?_
 refine seqL3 (by kernel_rfl) ?_
 refine wpList_nil ?_
 refine hK16 _ _ ?_
 have hq_ := ite_some h; clear h; rcases hq_ with ⟨c18, h⟩ | ⟨c18, h⟩
 · have c18 : (l7.length : Int) > 200 := c18
   refine wpRwI 15 (x := (decide ((l7.length : Int) > 200))) (v := true) (by kernel_rfl) (decide_eq_true c18) ?_
   refine condT (by kernel_rfl) ?_
   refine wp_seq_k (fun K19 hK20 => ?_)
   refine wp_region_lit ?_
   refine seqL1 (by kernel_rfl) ?_
   refine wpList_nil ?_
   refine hK20 _ _ ?_
   refine wp_ret ?_
   refine hret _ _ ?_
   refine ends_still (v := Value.int .i64 2) (by kernel_rfl) (by kernel_rfl) ?_
   injection h with h
   injection h with h0_ h
   subst h0_ h
   exact ⟨f, s3, rfl, FM.le.refl _, HS, HO4, trivial⟩
 · have c18 : ¬ ((l7.length : Int) > 200) := c18
   refine wpRwI 15 (x := (decide ((l7.length : Int) > 200))) (v := false) (by kernel_rfl) (decide_eq_false c18) ?_
   refine condF (by kernel_rfl) ?_
   refine wp_skip ?_
   refine hK14 _ _ ?_
   refine wp_seq_k (fun K21 hK22 => ?_)
   refine wp_seq_k (fun K23 hK24 => ?_)
   refine wp_region_lit ?_
   refine seqL3 (by kernel_rfl) ?_
   refine wpList_nil ?_
   refine hK24 _ _ ?_
   refine blockK (fun B25 hx26 hn27 hr28 ho29 hp30 => ?_)
   have hq_ := bind_some h; clear h; obtain ⟨o31, hv168, h⟩ := hq_
   have JR170 : ∀ z_, some (Sum.inl z_) = some o31 → some z_ = some (rr1, rr2) := by
    intro z_ e_; injection e_ with e_; subst e_; exact h
   have J169 : ∀ (f163 : FM) (j167 : Nat → Value) (W165 : World) (a_ : Act), FM.le f f163 → some (Sum.inr ()) = some o31 → St t W165 f163 (s3 :: H) → a_ = ⟨#[.map (mb A1), .slice A8 l7.length c9, uV, uV, (j167 0), (j167 1), (j167 2), (j167 3), (j167 4), (j167 5), (j167 6), uV, uV, .slice A8 l7.length c9, iV (l7.length : Int), fV, .slice A8 l7.length c9, iV (l7.length : Int), (j167 7), (j167 8), (j167 9), (j167 10), (j167 11), (j167 12), (j167 13), (j167 14), (j167 15), (j167 16), (j167 17), (j167 18), (j167 19), (j167 20), (j167 21), (j167 22), (j167 23), (j167 24), (j167 25), (j167 26), (j167 27), (j167 28), (j167 29), (j167 30), (j167 31), (j167 32), (j167 33), (j167 34), (j167 35), (j167 36), (j167 37), (j167 38), (j167 39), (j167 40), (j167 41), (j167 42), (j167 43), (j167 44), (j167 45), (j167 46), (j167 47), (j167 48), (j167 49), (j167 50), (j167 51), (j167 52), (j167 53), (j167 54), (j167 55), uV, uV, uV, uV, uV, uV, uV, uV, uV, uV, uV, uV, uV, uV, uV, uV, uV, uV, uV, uV, uV, uV, uV], []⟩ → K21 a_ W165 := by
    intro f163 j167 W165 a_ L164 hj171 HS166  hfr_; subst hfr_
    injection hj171 with hj171; subst hj171; try dsimp only at h
    simp only [Sum.elim_inr] at h
    refine hK22 _ _ ?_
    refine wp_seq_k (fun K202 hK203 => ?_)
    refine wp_seq_k (fun K204 hK205 => ?_)
    refine wp_region_lit ?_
    refine seqL3 (by kernel_rfl) ?_
    refine wpList_nil ?_
    refine hK205 _ _ ?_
    refine blockK (fun B206 hx207 hn208 hr209 ho210 hp211 => ?_)
    have hq_ := bind_some h; clear h; obtain ⟨o271, hv341, h⟩ := hq_
    have J342 : ∀ (f333 : FM) (s339 : Seg) (s338 : List (Int × S_Row)) (j337 : Nat → Value) (W335 : World) (a_ : Act), FM.le f163 f333 → some (s338) = some o271 → St t W335 f333 (s339 :: H) → OwnM (mty ty_Row) 100085 f333 A1 c2 s339 s338 → a_ = ⟨#[.map (mb A1), .slice A8 l7.length c9, uV, uV, (j167 0), (j167 1), (j167 2), (j167 3), (j167 4), (j167 5), (j167 6), uV, (j337 0), .slice A8 l7.length c9, iV (l7.length : Int), fV, .slice A8 l7.length c9, iV (l7.length : Int), (j167 7), (j167 8), (j167 9), (j167 10), (j167 11), (j167 12), (j167 13), (j167 14), (j167 15), (j167 16), (j167 17), (j167 18), (j167 19), (j167 20), (j167 21), (j167 22), (j167 23), (j167 24), (j167 25), (j167 26), (j167 27), (j167 28), (j167 29), (j167 30), (j167 31), (j167 32), (j167 33), (j167 34), (j167 35), (j167 36), (j167 37), (j167 38), (j167 39), (j167 40), (j167 41), (j167 42), (j167 43), (j167 44), (j167 45), (j167 46), (j167 47), (j167 48), (j167 49), (j167 50), (j167 51), (j167 52), (j167 53), (j167 54), (j167 55), .slice A8 l7.length c9, iV (l7.length : Int), (j337 1), (j337 2), (j337 3), (j337 4), (j337 5), (j337 6), (j337 7), (j337 8), (j337 9), (j337 10), (j337 11), (j337 12), (j337 13), (j337 14), (j337 15), (j337 16), (j337 17), (j337 18), uV, uV, uV], []⟩ → K202 a_ W335 := by
     intro f333 s339 s338 j337 W335 a_ L334 hj343 HS336 HO340 hfr_; subst hfr_
     injection hj343 with hj343; subst hj343; try dsimp only at h
     refine hK203 _ _ ?_
     refine wp_seq_k (fun K348 hK349 => ?_)
     refine wp_seq_k (fun K350 hK351 => ?_)
     refine wp_region_lit ?_
     refine seqL1 (by kernel_rfl) ?_
     refine seqK rfl (does_run (run_maplen HO340 rfl Try.underlying85 (by kernel_rfl : _ = Value.map (mb A1)) HS336) ?_)
     refine seqL1 (by kernel_rfl) ?_
     refine wpList_nil ?_
     refine hK351 _ _ ?_
     have hq_ := ite_some h; clear h; rcases hq_ with ⟨c353, h⟩ | ⟨c353, h⟩
     · have c353 : (s338.length : Int) > 200 := c353
       refine wpRwI 89 (x := (decide ((s338.length : Int) > 200))) (v := true) (by kernel_rfl) (decide_eq_true c353) ?_
       refine condT (by kernel_rfl) ?_
       refine wp_seq_k (fun K354 hK355 => ?_)
       refine wp_region_lit ?_
       refine seqL1 (by kernel_rfl) ?_
       refine wpList_nil ?_
       refine hK355 _ _ ?_
       refine wp_ret ?_
       refine hret _ _ ?_
       refine ends_still (v := Value.int .i64 9) (by kernel_rfl) (by kernel_rfl) ?_
       injection h with h
       injection h with h0_ h
       subst h0_ h
       exact ⟨f333, s339, rfl, (L164.trans L334), HS336, HO340, trivial⟩
     · have c353 : ¬ ((s338.length : Int) > 200) := c353
       refine wpRwI 89 (x := (decide ((s338.length : Int) > 200))) (v := false) (by kernel_rfl) (decide_eq_false c353) ?_
       refine condF (by kernel_rfl) ?_
       refine wp_skip ?_
       refine hK349 _ _ ?_
       refine wp_seq_k (fun K356 hK357 => ?_)
       refine wp_region_lit ?_
       refine seqL1 (by kernel_rfl) ?_
       refine wpList_nil ?_
       refine hK357 _ _ ?_
       refine wp_ret ?_
       refine hret _ _ ?_
       refine ends_still (v := Value.int .i64 0) (by kernel_rfl) (by kernel_rfl) ?_
       injection h with h
       injection h with h0_ h
       subst h0_ h
       exact ⟨f333, s339, rfl, (L164.trans L334), HS336, HO340, trivial⟩
    clear h; have h := hv341; clear hv341
    refine loopK (fun n_ a_ w_ => ∃ (f275 : FM) (s281 : Seg) (s280 : List (Int × S_Row)) (x283 : Int) (j279 : Nat → Value), FM.le f163 f275 ∧ St t w_ f275 (s281 :: H) ∧ OwnM (mty ty_Row) 100085 f275 A1 c2 s281 s280 ∧ catalog_state_apply.l1 k l7 n_ s280 x283 = some o271 ∧ a_ = ⟨#[.map (mb A1), .slice A8 l7.length c9, uV, uV, (j167 0), (j167 1), (j167 2), (j167 3), (j167 4), (j167 5), (j167 6), uV, (j279 0), .slice A8 l7.length c9, iV (l7.length : Int), fV, .slice A8 l7.length c9, iV (l7.length : Int), (j167 7), (j167 8), (j167 9), (j167 10), (j167 11), (j167 12), (j167 13), (j167 14), (j167 15), (j167 16), (j167 17), (j167 18), (j167 19), (j167 20), (j167 21), (j167 22), (j167 23), (j167 24), (j167 25), (j167 26), (j167 27), (j167 28), (j167 29), (j167 30), (j167 31), (j167 32), (j167 33), (j167 34), (j167 35), (j167 36), (j167 37), (j167 38), (j167 39), (j167 40), (j167 41), (j167 42), (j167 43), (j167 44), (j167 45), (j167 46), (j167 47), (j167 48), (j167 49), (j167 50), (j167 51), (j167 52), (j167 53), (j167 54), (j167 55), .slice A8 l7.length c9, iV (l7.length : Int), iV x283, (j279 1), (j279 2), (j279 3), (j279 4), (j279 5), (j279 6), (j279 7), (j279 8), (j279 9), (j279 10), (j279 11), (j279 12), (j279 13), (j279 14), (j279 15), (j279 16), (j279 17), uV, uV, uV], []⟩) k ⟨f163, s3, s5, 0, (fun i_ => [undef, undef, undef, undef, undef, undef, undef, undef, undef, undef, undef, undef, undef, undef, undef, undef, undef, undef].getD i_ undef), (FM.le.refl _), HS166, (HO4.mono L164), h, (by kernel_rfl)⟩ ?_
    clear h
    rintro n274 _ W277 ⟨f275, s281, s280, x283, j279, L276, HS278, HO282, h, rfl⟩ K272 hK273
    obtain _ | n274 := n274
    · exact nomatch h
    simp only [catalog_state_apply.l1] at h
    refine wp_seq_k (fun K284 hK285 => ?_)
    refine wp_region_lit ?_
    refine seqL1 (by kernel_rfl) ?_
    refine wpList_nil ?_
    refine hK285 _ _ ?_
    refine wp_seq_k (fun K286 hK287 => ?_)
    have hq_ := ite_some h; clear h; rcases hq_ with ⟨c289, h⟩ | ⟨c289, h⟩
    · have c289 : x283 < (l7.length : Int) := c289
      refine wpRwI 70 (x := (decide (x283 < (l7.length : Int)))) (v := true) (by kernel_rfl) (decide_eq_true c289) ?_
      refine condT (by kernel_rfl) ?_
      refine wp_skip ?_
      refine hK287 _ _ ?_
      refine wp_seq_k (fun K290 hK291 => ?_)
      refine blockK (fun B292 hx293 hn294 hr295 ho296 hp297 => ?_)
      refine wp_seq_k (fun K299 hK300 => ?_)
      refine wp_region_lit ?_
      have hq_ := guard_some h; clear h; obtain ⟨c301, h⟩ := hq_
      have c301 : 0 ≤ x283 := c301
      obtain ⟨b305, of306, cs302, hA307, hr303, hc304⟩ := (HR10.mono (L164.trans L276)).at (i := x283) c301 c289
      obtain ⟨A308, c308, rfl, HR308⟩ := hr303
      refine seqK rfl (does_run (run_indexE hA307 (sz := 19) rfl Try.underlying28 (by kernel_rfl) (by kernel_rfl : _ = Value.slice A8 l7.length c9) (by kernel_rfl : _ = Value.int .i64 x283) c301 c289 W277) ?_)
      refine seqK rfl (does_run (run_loadN (n := 19) rfl Try.underlying71 rfl (by kernel_rfl) (by kernel_rfl : _ = Value.pointer (some ⟨b305, of306 + (x283 : Int).toNat * 19, none⟩)) (cs := [.int .i64 ((rd l7 x283).Kind), .int .i64 (((rd l7 x283).Row).ID), .int .i64 (((((rd l7 x283).Row).Box).X).Lo), .int .i64 (((((rd l7 x283).Row).Box).X).Hi), .bool (((((rd l7 x283).Row).Box).X).Unknown), .int .i64 (((((rd l7 x283).Row).Box).Y).Lo), .int .i64 (((((rd l7 x283).Row).Box).Y).Hi), .bool (((((rd l7 x283).Row).Box).Y).Unknown), .int .i64 (((((rd l7 x283).Row).Box).Z).Lo), .int .i64 (((((rd l7 x283).Row).Box).Z).Hi), .bool (((((rd l7 x283).Row).Box).Z).Unknown), .int .i64 ((((rd l7 x283).Row).Flux).Lo), .int .i64 ((((rd l7 x283).Row).Flux).Hi), .bool ((((rd l7 x283).Row).Flux).Unknown), .int .i64 ((((rd l7 x283).Row).When).Lo), .int .i64 ((((rd l7 x283).Row).When).Hi), .bool ((((rd l7 x283).Row).When).Unknown), .slice A308 (((rd l7 x283).Row).Frames).length c308, .int .i64 (((rd l7 x283).Row).Marks)]) rfl (fun j_ hj_ => ((hc304 (FM.le.refl _) HS278) j_ hj_))) ?_)
      refine seqK rfl (does_alloc (z := Value.agg #[.int .i64 0, .int .i64 0, .int .i64 0, .int .i64 0, .bool false, .int .i64 0, .int .i64 0, .bool false, .int .i64 0, .int .i64 0, .bool false, .int .i64 0, .int .i64 0, .bool false, .int .i64 0, .int .i64 0, .bool false, .slice none 0 0, .int .i64 0]) (cs := #[.int .i64 0, .int .i64 0, .int .i64 0, .int .i64 0, .bool false, .int .i64 0, .int .i64 0, .bool false, .int .i64 0, .int .i64 0, .bool false, .int .i64 0, .int .i64 0, .bool false, .int .i64 0, .int .i64 0, .bool false, .slice none 0 0, .int .i64 0]) rfl (by kernel_rfl) rfl HS278 ?_)
      intro b309 W310 HS311
      refine seqK rfl (does_store (n := 19) (vs := [.int .i64 ((rd l7 x283).Kind), .int .i64 (((rd l7 x283).Row).ID), .int .i64 (((((rd l7 x283).Row).Box).X).Lo), .int .i64 (((((rd l7 x283).Row).Box).X).Hi), .bool (((((rd l7 x283).Row).Box).X).Unknown), .int .i64 (((((rd l7 x283).Row).Box).Y).Lo), .int .i64 (((((rd l7 x283).Row).Box).Y).Hi), .bool (((((rd l7 x283).Row).Box).Y).Unknown), .int .i64 (((((rd l7 x283).Row).Box).Z).Lo), .int .i64 (((((rd l7 x283).Row).Box).Z).Hi), .bool (((((rd l7 x283).Row).Box).Z).Unknown), .int .i64 ((((rd l7 x283).Row).Flux).Lo), .int .i64 ((((rd l7 x283).Row).Flux).Hi), .bool ((((rd l7 x283).Row).Flux).Unknown), .int .i64 ((((rd l7 x283).Row).When).Lo), .int .i64 ((((rd l7 x283).Row).When).Hi), .bool ((((rd l7 x283).Row).When).Unknown), .slice A308 (((rd l7 x283).Row).Frames).length c308, .int .i64 (((rd l7 x283).Row).Marks)]) (cs' := #[.int .i64 ((rd l7 x283).Kind), .int .i64 (((rd l7 x283).Row).ID), .int .i64 (((((rd l7 x283).Row).Box).X).Lo), .int .i64 (((((rd l7 x283).Row).Box).X).Hi), .bool (((((rd l7 x283).Row).Box).X).Unknown), .int .i64 (((((rd l7 x283).Row).Box).Y).Lo), .int .i64 (((((rd l7 x283).Row).Box).Y).Hi), .bool (((((rd l7 x283).Row).Box).Y).Unknown), .int .i64 (((((rd l7 x283).Row).Box).Z).Lo), .int .i64 (((((rd l7 x283).Row).Box).Z).Hi), .bool (((((rd l7 x283).Row).Box).Z).Unknown), .int .i64 ((((rd l7 x283).Row).Flux).Lo), .int .i64 ((((rd l7 x283).Row).Flux).Hi), .bool ((((rd l7 x283).Row).Flux).Unknown), .int .i64 ((((rd l7 x283).Row).When).Lo), .int .i64 ((((rd l7 x283).Row).When).Hi), .bool ((((rd l7 x283).Row).When).Unknown), .slice A308 (((rd l7 x283).Row).Frames).length c308, .int .i64 (((rd l7 x283).Row).Marks)]) rfl (by kernel_rfl) (by kernel_rfl : _ = Value.pointer (some ⟨b309, 0, none⟩)) (by kernel_rfl : _ = Value.agg #[.int .i64 ((rd l7 x283).Kind), .int .i64 (((rd l7 x283).Row).ID), .int .i64 (((((rd l7 x283).Row).Box).X).Lo), .int .i64 (((((rd l7 x283).Row).Box).X).Hi), .bool (((((rd l7 x283).Row).Box).X).Unknown), .int .i64 (((((rd l7 x283).Row).Box).Y).Lo), .int .i64 (((((rd l7 x283).Row).Box).Y).Hi), .bool (((((rd l7 x283).Row).Box).Y).Unknown), .int .i64 (((((rd l7 x283).Row).Box).Z).Lo), .int .i64 (((((rd l7 x283).Row).Box).Z).Hi), .bool (((((rd l7 x283).Row).Box).Z).Unknown), .int .i64 ((((rd l7 x283).Row).Flux).Lo), .int .i64 ((((rd l7 x283).Row).Flux).Hi), .bool ((((rd l7 x283).Row).Flux).Unknown), .int .i64 ((((rd l7 x283).Row).When).Lo), .int .i64 ((((rd l7 x283).Row).When).Hi), .bool ((((rd l7 x283).Row).When).Unknown), .slice A308 (((rd l7 x283).Row).Frames).length c308, .int .i64 (((rd l7 x283).Row).Marks)]) rfl rfl (by intro u_ hu_; simp only [List.mem_cons, List.not_mem_nil, or_false] at hu_; rcases hu_ with rfl | rfl | rfl | rfl | rfl | rfl | rfl | rfl | rfl | rfl | rfl | rfl | rfl | rfl | rfl | rfl | rfl | rfl | rfl <;> rfl) HS311 (Nat.le_of_ble_eq_true rfl) (by kernel_rfl) ?_)
      intro W313 HS314
      refine wpList_nil ?_
      refine hK300 _ _ ?_
      refine wp_seq_k (fun K315 hK316 => ?_)
      refine wp_seq_k (fun K317 hK318 => ?_)
      refine wp_region_lit ?_
      refine seqL1 (by kernel_rfl) ?_
      refine seqK rfl (does_run (run_load rfl Try.underlying3 rfl (by kernel_rfl : _ = Value.pointer (some ⟨b309, 0, none⟩)) (HS314.cell 0)) ?_)
      refine seqL1 (by kernel_rfl) ?_
      refine wpList_nil ?_
      refine hK318 _ _ ?_
      have hq_ := ite_some h; clear h; rcases hq_ with ⟨c320, h⟩ | ⟨c320, h⟩
      · have c320 : ((rd l7 x283).Kind) = 3 := c320
        refine wpRwI 75 (x := (((rd l7 x283).Kind) == 3)) (v := true) (by kernel_rfl) (beq_iff_eq.mpr c320) ?_
        refine condT (by kernel_rfl) ?_
        refine wp_seq_k (fun K321 hK322 => ?_)
        refine wp_region_lit ?_
        refine seqL3 (by kernel_rfl) ?_
        refine seqK rfl (does_run (run_load rfl Try.underlying3 rfl (by kernel_rfl : _ = Value.pointer (some ⟨b309, 1, none⟩)) (HS314.cell 1)) ?_)
        have HS323 := HS314.u1
        refine seqK rfl (does_deleteR (k := (((rd l7 x283).Row).ID)) rfl Try.underlying85 Try.underlying3 (by kernel_rfl : _ = Value.map (mb A1)) (by kernel_rfl : _ = Value.int .i64 (((rd l7 x283).Row).ID)) HO282 HS323 ?_)
        intro W324 s325 HS326 HO327
        refine wpList_nil ?_
        refine hK322 _ _ ?_
        refine wp_exit ?_
        refine hx293 _ _ ?_
        refine hK291 _ _ ?_
        refine wp_region_lit ?_
        refine seqL2 (by kernel_rfl) ?_
        refine wpList_nil ?_
        refine hK273 n274 _ _ (Nat.lt_succ_self _) ?_
        have HS344 := HS326.u1
        have HS345 := HS344.drop
        exact ⟨f275, s325, (merase s280 (((rd l7 x283).Row).ID)), (w64 (x283 + 1)), (fun i_ => [Value.pointer (some ⟨b309, 0, none⟩), Value.bool true, Value.pointer (some ⟨b305, of306 + (x283 : Int).toNat * 19, none⟩), (ag_Change (rd l7 x283) A308 c308), Value.pointer (some ⟨b309, 0, none⟩), Value.int .i64 ((rd l7 x283).Kind), Value.bool true, Value.map (mb A1), Value.pointer (some ⟨b309, 1, none⟩), Value.pointer (some ⟨b309, 1, none⟩), Value.int .i64 (((rd l7 x283).Row).ID), (j279 11), (j279 12), (j279 13), (j279 14), (j279 15), (j279 16), Value.int .i64 (w64 (x283 + 1))].getD i_ undef), L276, HS345, HO327, h, (by kernel_rfl)⟩
      · have c320 : ¬ (((rd l7 x283).Kind) = 3) := c320
        refine wpRwI 75 (x := (((rd l7 x283).Kind) == 3)) (v := false) (by kernel_rfl) (beq_eq_false_iff_ne.mpr c320) ?_
        refine condF (by kernel_rfl) ?_
        refine wp_skip ?_
        refine hK316 _ _ ?_
        refine wp_region_lit ?_
        refine seqL3 (by kernel_rfl) ?_
        refine seqK rfl (does_run (run_load rfl Try.underlying3 rfl (by kernel_rfl : _ = Value.pointer (some ⟨b309, 1, none⟩)) (HS314.cell 1)) ?_)
        refine seqL1 (by kernel_rfl) ?_
        refine seqK rfl (does_run (run_loadN (n := 18) rfl Try.underlying65 rfl (by kernel_rfl) (by kernel_rfl : _ = Value.pointer (some ⟨b309, 1, none⟩)) (cs := [.int .i64 (((rd l7 x283).Row).ID), .int .i64 (((((rd l7 x283).Row).Box).X).Lo), .int .i64 (((((rd l7 x283).Row).Box).X).Hi), .bool (((((rd l7 x283).Row).Box).X).Unknown), .int .i64 (((((rd l7 x283).Row).Box).Y).Lo), .int .i64 (((((rd l7 x283).Row).Box).Y).Hi), .bool (((((rd l7 x283).Row).Box).Y).Unknown), .int .i64 (((((rd l7 x283).Row).Box).Z).Lo), .int .i64 (((((rd l7 x283).Row).Box).Z).Hi), .bool (((((rd l7 x283).Row).Box).Z).Unknown), .int .i64 ((((rd l7 x283).Row).Flux).Lo), .int .i64 ((((rd l7 x283).Row).Flux).Hi), .bool ((((rd l7 x283).Row).Flux).Unknown), .int .i64 ((((rd l7 x283).Row).When).Lo), .int .i64 ((((rd l7 x283).Row).When).Hi), .bool ((((rd l7 x283).Row).When).Unknown), .slice A308 (((rd l7 x283).Row).Frames).length c308, .int .i64 (((rd l7 x283).Row).Marks)]) rfl (HS314.cells 1 18 _ rfl)) ?_)
        have HS328 := HS314.u1
        refine seqK rfl (does_mapUpdateR (e := ty_Row) (k := (((rd l7 x283).Row).ID)) (v := ((rd l7 x283).Row)) (cs := [.int .i64 (((rd l7 x283).Row).ID), .int .i64 (((((rd l7 x283).Row).Box).X).Lo), .int .i64 (((((rd l7 x283).Row).Box).X).Hi), .bool (((((rd l7 x283).Row).Box).X).Unknown), .int .i64 (((((rd l7 x283).Row).Box).Y).Lo), .int .i64 (((((rd l7 x283).Row).Box).Y).Hi), .bool (((((rd l7 x283).Row).Box).Y).Unknown), .int .i64 (((((rd l7 x283).Row).Box).Z).Lo), .int .i64 (((((rd l7 x283).Row).Box).Z).Hi), .bool (((((rd l7 x283).Row).Box).Z).Unknown), .int .i64 ((((rd l7 x283).Row).Flux).Lo), .int .i64 ((((rd l7 x283).Row).Flux).Hi), .bool ((((rd l7 x283).Row).Flux).Unknown), .int .i64 ((((rd l7 x283).Row).When).Lo), .int .i64 ((((rd l7 x283).Row).When).Hi), .bool ((((rd l7 x283).Row).When).Unknown), .slice A308 (((rd l7 x283).Row).Frames).length c308, .int .i64 (((rd l7 x283).Row).Marks)]) rfl Try.underlying85 Try.underlying3 (by kernel_rfl : _ = Value.map (mb A1)) (by kernel_rfl : _ = Value.int .i64 (((rd l7 x283).Row).ID)) (by kernel_rfl : _ = Value.agg #[.int .i64 (((rd l7 x283).Row).ID), .int .i64 (((((rd l7 x283).Row).Box).X).Lo), .int .i64 (((((rd l7 x283).Row).Box).X).Hi), .bool (((((rd l7 x283).Row).Box).X).Unknown), .int .i64 (((((rd l7 x283).Row).Box).Y).Lo), .int .i64 (((((rd l7 x283).Row).Box).Y).Hi), .bool (((((rd l7 x283).Row).Box).Y).Unknown), .int .i64 (((((rd l7 x283).Row).Box).Z).Lo), .int .i64 (((((rd l7 x283).Row).Box).Z).Hi), .bool (((((rd l7 x283).Row).Box).Z).Unknown), .int .i64 ((((rd l7 x283).Row).Flux).Lo), .int .i64 ((((rd l7 x283).Row).Flux).Hi), .bool ((((rd l7 x283).Row).Flux).Unknown), .int .i64 ((((rd l7 x283).Row).When).Lo), .int .i64 ((((rd l7 x283).Row).When).Hi), .bool ((((rd l7 x283).Row).When).Unknown), .slice A308 (((rd l7 x283).Row).Frames).length c308, .int .i64 (((rd l7 x283).Row).Marks)]) ⟨A308, c308, rfl, HR308⟩ HO282 HS328 ?_)
        intro W329 s330 HS331 HO332
        refine wpList_nil ?_
        refine hn294 _ _ ?_
        refine hK291 _ _ ?_
        refine wp_region_lit ?_
        refine seqL2 (by kernel_rfl) ?_
        refine wpList_nil ?_
        refine hK273 n274 _ _ (Nat.lt_succ_self _) ?_
        have HS346 := HS331.u1
        have HS347 := HS346.drop
        exact ⟨f275, s330, (mput s280 (((rd l7 x283).Row).ID) ((rd l7 x283).Row)), (w64 (x283 + 1)), (fun i_ => [Value.pointer (some ⟨b309, 0, none⟩), Value.bool true, Value.pointer (some ⟨b305, of306 + (x283 : Int).toNat * 19, none⟩), (ag_Change (rd l7 x283) A308 c308), Value.pointer (some ⟨b309, 0, none⟩), Value.int .i64 ((rd l7 x283).Kind), Value.bool false, (j279 7), (j279 8), (j279 9), (j279 10), Value.map (mb A1), Value.pointer (some ⟨b309, 1, none⟩), Value.pointer (some ⟨b309, 1, none⟩), Value.int .i64 (((rd l7 x283).Row).ID), Value.pointer (some ⟨b309, 1, none⟩), (ag_Row ((rd l7 x283).Row) A308 c308), Value.int .i64 (w64 (x283 + 1))].getD i_ undef), L276, HS347, HO332, h, (by kernel_rfl)⟩
    · have c289 : ¬ (x283 < (l7.length : Int)) := c289
      refine wpRwI 70 (x := (decide (x283 < (l7.length : Int)))) (v := false) (by kernel_rfl) (decide_eq_false c289) ?_
      refine condF (by kernel_rfl) ?_
      refine wp_exit ?_
      refine hx207 _ _ ?_
      exact J342 f275 s281 s280 (fun i_ => [(j279 0), Value.int .i64 x283, Value.bool false, (j279 2), (j279 3), (j279 4), (j279 5), (j279 6), (j279 7), (j279 8), (j279 9), (j279 10), (j279 11), (j279 12), (j279 13), (j279 14), (j279 15), (j279 16), (j279 17)].getD i_ undef) W277 _ L276 h HS278 HO282 (by kernel_rfl)
   clear h; have h := hv168; clear hv168
   refine loopK (fun n_ a_ w_ => ∃ (f35 : FM) (x40 : Int) (j39 : Nat → Value), FM.le f f35 ∧ St t w_ f35 (s3 :: H) ∧ catalog_state_apply.l0 k l7 s5 n_ x40 = some o31 ∧ a_ = ⟨#[.map (mb A1), .slice A8 l7.length c9, uV, uV, (j39 0), (j39 1), (j39 2), (j39 3), (j39 4), (j39 5), (j39 6), uV, uV, .slice A8 l7.length c9, iV (l7.length : Int), fV, .slice A8 l7.length c9, iV (l7.length : Int), iV x40, (j39 7), (j39 8), (j39 9), (j39 10), (j39 11), (j39 12), (j39 13), (j39 14), (j39 15), (j39 16), (j39 17), (j39 18), (j39 19), (j39 20), (j39 21), (j39 22), (j39 23), (j39 24), (j39 25), (j39 26), (j39 27), (j39 28), (j39 29), (j39 30), (j39 31), (j39 32), (j39 33), (j39 34), (j39 35), (j39 36), (j39 37), (j39 38), (j39 39), (j39 40), (j39 41), (j39 42), (j39 43), (j39 44), (j39 45), (j39 46), (j39 47), (j39 48), (j39 49), (j39 50), (j39 51), (j39 52), (j39 53), (j39 54), uV, uV, uV, uV, uV, uV, uV, uV, uV, uV, uV, uV, uV, uV, uV, uV, uV, uV, uV, uV, uV, uV, uV], []⟩) k ⟨f, 0, (fun i_ => [Value.int .i64 0, undef, undef, undef, undef, undef, undef, undef, undef, undef, undef, undef, undef, undef, undef, undef, undef, undef, undef, undef, undef, undef, undef, undef, undef, undef, undef, undef, undef, undef, undef, undef, undef, undef, undef, undef, undef, undef, undef, undef, undef, undef, undef, undef, undef, undef, undef, undef, undef, undef, undef, undef, undef, undef, undef].getD i_ undef), (FM.le.refl _), HS, h, (by kernel_rfl)⟩ ?_
   clear h
   rintro n34 _ W37 ⟨f35, x40, j39, L36, HS38, h, rfl⟩ K32 hK33
   obtain _ | n34 := n34
   · exact nomatch h
   simp only [catalog_state_apply.l0] at h
   refine wp_seq_k (fun K41 hK42 => ?_)
   refine wp_region_lit ?_
   refine seqL1 (by kernel_rfl) ?_
   refine wpList_nil ?_
   refine hK42 _ _ ?_
   refine wp_seq_k (fun K43 hK44 => ?_)
   have hq_ := ite_some h; clear h; rcases hq_ with ⟨c46, h⟩ | ⟨c46, h⟩
   · have c46 : x40 < (l7.length : Int) := c46
     refine wpRwI 19 (x := (decide (x40 < (l7.length : Int)))) (v := true) (by kernel_rfl) (decide_eq_true c46) ?_
     refine condT (by kernel_rfl) ?_
     refine wp_skip ?_
     refine hK44 _ _ ?_
     refine wp_seq_k (fun K47 hK48 => ?_)
     refine blockK (fun B49 hx50 hn51 hr52 ho53 hp54 => ?_)
     refine wp_seq_k (fun K56 hK57 => ?_)
     refine wp_region_lit ?_
     have hq_ := guard_some h; clear h; obtain ⟨c58, h⟩ := hq_
     have c58 : 0 ≤ x40 := c58
     obtain ⟨b62, of63, cs59, hA64, hr60, hc61⟩ := (HR10.mono L36).at (i := x40) c58 c46
     obtain ⟨A65, c65, rfl, HR65⟩ := hr60
     refine seqL1 (by kernel_rfl) ?_
     refine seqK rfl (does_run (run_indexE hA64 (sz := 19) rfl Try.underlying28 (by kernel_rfl) (by kernel_rfl : _ = Value.slice A8 l7.length c9) (by kernel_rfl : _ = Value.int .i64 x40) c58 c46 W37) ?_)
     refine seqK rfl (does_run (run_loadN (n := 19) rfl Try.underlying71 rfl (by kernel_rfl) (by kernel_rfl : _ = Value.pointer (some ⟨b62, of63 + (x40 : Int).toNat * 19, none⟩)) (cs := [.int .i64 ((rd l7 x40).Kind), .int .i64 (((rd l7 x40).Row).ID), .int .i64 (((((rd l7 x40).Row).Box).X).Lo), .int .i64 (((((rd l7 x40).Row).Box).X).Hi), .bool (((((rd l7 x40).Row).Box).X).Unknown), .int .i64 (((((rd l7 x40).Row).Box).Y).Lo), .int .i64 (((((rd l7 x40).Row).Box).Y).Hi), .bool (((((rd l7 x40).Row).Box).Y).Unknown), .int .i64 (((((rd l7 x40).Row).Box).Z).Lo), .int .i64 (((((rd l7 x40).Row).Box).Z).Hi), .bool (((((rd l7 x40).Row).Box).Z).Unknown), .int .i64 ((((rd l7 x40).Row).Flux).Lo), .int .i64 ((((rd l7 x40).Row).Flux).Hi), .bool ((((rd l7 x40).Row).Flux).Unknown), .int .i64 ((((rd l7 x40).Row).When).Lo), .int .i64 ((((rd l7 x40).Row).When).Hi), .bool ((((rd l7 x40).Row).When).Unknown), .slice A65 (((rd l7 x40).Row).Frames).length c65, .int .i64 (((rd l7 x40).Row).Marks)]) rfl (fun j_ hj_ => ((hc61 (FM.le.refl _) HS38) j_ hj_))) ?_)
     refine seqK rfl (does_alloc (z := Value.agg #[.int .i64 0, .int .i64 0, .int .i64 0, .int .i64 0, .bool false, .int .i64 0, .int .i64 0, .bool false, .int .i64 0, .int .i64 0, .bool false, .int .i64 0, .int .i64 0, .bool false, .int .i64 0, .int .i64 0, .bool false, .slice none 0 0, .int .i64 0]) (cs := #[.int .i64 0, .int .i64 0, .int .i64 0, .int .i64 0, .bool false, .int .i64 0, .int .i64 0, .bool false, .int .i64 0, .int .i64 0, .bool false, .int .i64 0, .int .i64 0, .bool false, .int .i64 0, .int .i64 0, .bool false, .slice none 0 0, .int .i64 0]) rfl (by kernel_rfl) rfl HS38 ?_)
     intro b66 W67 HS68
     refine seqL1 (by kernel_rfl) ?_
     refine seqK rfl (does_store (n := 19) (vs := [.int .i64 ((rd l7 x40).Kind), .int .i64 (((rd l7 x40).Row).ID), .int .i64 (((((rd l7 x40).Row).Box).X).Lo), .int .i64 (((((rd l7 x40).Row).Box).X).Hi), .bool (((((rd l7 x40).Row).Box).X).Unknown), .int .i64 (((((rd l7 x40).Row).Box).Y).Lo), .int .i64 (((((rd l7 x40).Row).Box).Y).Hi), .bool (((((rd l7 x40).Row).Box).Y).Unknown), .int .i64 (((((rd l7 x40).Row).Box).Z).Lo), .int .i64 (((((rd l7 x40).Row).Box).Z).Hi), .bool (((((rd l7 x40).Row).Box).Z).Unknown), .int .i64 ((((rd l7 x40).Row).Flux).Lo), .int .i64 ((((rd l7 x40).Row).Flux).Hi), .bool ((((rd l7 x40).Row).Flux).Unknown), .int .i64 ((((rd l7 x40).Row).When).Lo), .int .i64 ((((rd l7 x40).Row).When).Hi), .bool ((((rd l7 x40).Row).When).Unknown), .slice A65 (((rd l7 x40).Row).Frames).length c65, .int .i64 (((rd l7 x40).Row).Marks)]) (cs' := #[.int .i64 ((rd l7 x40).Kind), .int .i64 (((rd l7 x40).Row).ID), .int .i64 (((((rd l7 x40).Row).Box).X).Lo), .int .i64 (((((rd l7 x40).Row).Box).X).Hi), .bool (((((rd l7 x40).Row).Box).X).Unknown), .int .i64 (((((rd l7 x40).Row).Box).Y).Lo), .int .i64 (((((rd l7 x40).Row).Box).Y).Hi), .bool (((((rd l7 x40).Row).Box).Y).Unknown), .int .i64 (((((rd l7 x40).Row).Box).Z).Lo), .int .i64 (((((rd l7 x40).Row).Box).Z).Hi), .bool (((((rd l7 x40).Row).Box).Z).Unknown), .int .i64 ((((rd l7 x40).Row).Flux).Lo), .int .i64 ((((rd l7 x40).Row).Flux).Hi), .bool ((((rd l7 x40).Row).Flux).Unknown), .int .i64 ((((rd l7 x40).Row).When).Lo), .int .i64 ((((rd l7 x40).Row).When).Hi), .bool ((((rd l7 x40).Row).When).Unknown), .slice A65 (((rd l7 x40).Row).Frames).length c65, .int .i64 (((rd l7 x40).Row).Marks)]) rfl (by kernel_rfl) (by kernel_rfl : _ = Value.pointer (some ⟨b66, 0, none⟩)) (by kernel_rfl : _ = Value.agg #[.int .i64 ((rd l7 x40).Kind), .int .i64 (((rd l7 x40).Row).ID), .int .i64 (((((rd l7 x40).Row).Box).X).Lo), .int .i64 (((((rd l7 x40).Row).Box).X).Hi), .bool (((((rd l7 x40).Row).Box).X).Unknown), .int .i64 (((((rd l7 x40).Row).Box).Y).Lo), .int .i64 (((((rd l7 x40).Row).Box).Y).Hi), .bool (((((rd l7 x40).Row).Box).Y).Unknown), .int .i64 (((((rd l7 x40).Row).Box).Z).Lo), .int .i64 (((((rd l7 x40).Row).Box).Z).Hi), .bool (((((rd l7 x40).Row).Box).Z).Unknown), .int .i64 ((((rd l7 x40).Row).Flux).Lo), .int .i64 ((((rd l7 x40).Row).Flux).Hi), .bool ((((rd l7 x40).Row).Flux).Unknown), .int .i64 ((((rd l7 x40).Row).When).Lo), .int .i64 ((((rd l7 x40).Row).When).Hi), .bool ((((rd l7 x40).Row).When).Unknown), .slice A65 (((rd l7 x40).Row).Frames).length c65, .int .i64 (((rd l7 x40).Row).Marks)]) rfl rfl (by intro u_ hu_; simp only [List.mem_cons, List.not_mem_nil, or_false] at hu_; rcases hu_ with rfl | rfl | rfl | rfl | rfl | rfl | rfl | rfl | rfl | rfl | rfl | rfl | rfl | rfl | rfl | rfl | rfl | rfl | rfl <;> rfl) HS68 (Nat.le_of_ble_eq_true rfl) (by kernel_rfl) ?_)
     intro W70 HS71
     refine wpList_nil ?_
     refine hK57 _ _ ?_
     refine wp_seq_k (fun K72 hK73 => ?_)
     refine wp_seq_k (fun K74 hK75 => ?_)
     refine wp_region_lit ?_
     refine seqK rfl (does_run (run_loadN (n := 19) rfl Try.underlying71 rfl (by kernel_rfl) (by kernel_rfl : _ = Value.pointer (some ⟨b66, 0, none⟩)) (cs := [.int .i64 ((rd l7 x40).Kind), .int .i64 (((rd l7 x40).Row).ID), .int .i64 (((((rd l7 x40).Row).Box).X).Lo), .int .i64 (((((rd l7 x40).Row).Box).X).Hi), .bool (((((rd l7 x40).Row).Box).X).Unknown), .int .i64 (((((rd l7 x40).Row).Box).Y).Lo), .int .i64 (((((rd l7 x40).Row).Box).Y).Hi), .bool (((((rd l7 x40).Row).Box).Y).Unknown), .int .i64 (((((rd l7 x40).Row).Box).Z).Lo), .int .i64 (((((rd l7 x40).Row).Box).Z).Hi), .bool (((((rd l7 x40).Row).Box).Z).Unknown), .int .i64 ((((rd l7 x40).Row).Flux).Lo), .int .i64 ((((rd l7 x40).Row).Flux).Hi), .bool ((((rd l7 x40).Row).Flux).Unknown), .int .i64 ((((rd l7 x40).Row).When).Lo), .int .i64 ((((rd l7 x40).Row).When).Hi), .bool ((((rd l7 x40).Row).When).Unknown), .slice A65 (((rd l7 x40).Row).Frames).length c65, .int .i64 (((rd l7 x40).Row).Marks)]) rfl (HS71.cells 0 19 _ rfl)) ?_)
     have hq_ := bind_some h; clear h; obtain ⟨vt76, hc77, h⟩ := hq_
     refine seqK rfl (does_call (f := 47) (args := #[.agg #[.int .i64 ((rd l7 x40).Kind), .int .i64 (((rd l7 x40).Row).ID), .int .i64 (((((rd l7 x40).Row).Box).X).Lo), .int .i64 (((((rd l7 x40).Row).Box).X).Hi), .bool (((((rd l7 x40).Row).Box).X).Unknown), .int .i64 (((((rd l7 x40).Row).Box).Y).Lo), .int .i64 (((((rd l7 x40).Row).Box).Y).Hi), .bool (((((rd l7 x40).Row).Box).Y).Unknown), .int .i64 (((((rd l7 x40).Row).Box).Z).Lo), .int .i64 (((((rd l7 x40).Row).Box).Z).Hi), .bool (((((rd l7 x40).Row).Box).Z).Unknown), .int .i64 ((((rd l7 x40).Row).Flux).Lo), .int .i64 ((((rd l7 x40).Row).Flux).Hi), .bool ((((rd l7 x40).Row).Flux).Unknown), .int .i64 ((((rd l7 x40).Row).When).Lo), .int .i64 ((((rd l7 x40).Row).When).Hi), .bool ((((rd l7 x40).Row).When).Unknown), .slice A65 (((rd l7 x40).Row).Frames).length c65, .int .i64 (((rd l7 x40).Row).Marks)]]) (by kernel_rfl) (catalog_shape.calls k A65 c65 (rd l7 x40) HS71 HR65 vt76 hc77) ?_)
     rintro _ W80 ⟨f78, rfl, L79, HS81⟩
     refine ⟨_, rfl, ?_⟩
     refine seqL1 (by kernel_rfl) ?_
     refine wpList_nil ?_
     refine hK75 _ _ ?_
     refine wp_seq_k (fun K82 hK83 => ?_)
     refine wp_region_lit ?_
     refine seqL2 (by kernel_rfl) ?_
     refine wpList_nil ?_
     refine hK83 _ _ ?_
     have hq_ := ite_some h; clear h; rcases hq_ with ⟨c85, h⟩ | ⟨c85, h⟩
     · have c85 : vt76 ≠ 0 := c85
       refine wpRwI 26 (x := (vt76 != 0)) (v := true) (by kernel_rfl) (bne_iff_ne.mpr c85) ?_
       refine condT (by kernel_rfl) ?_
       refine wp_seq_k (fun K86 hK87 => ?_)
       refine wp_region_lit ?_
       refine seqL2 (by kernel_rfl) ?_
       refine wpList_nil ?_
       refine hK87 _ _ ?_
       refine wp_ret ?_
       refine hr52 _ _ ?_
       refine hr28 _ _ ?_
       refine hret _ _ ?_
       refine ends_still (v := Value.int .i64 vt76) (by kernel_rfl) (by kernel_rfl) ?_
       have HS358 := HS81.drop
       replace h := JR170 _ h
       injection h with h
       injection h with h0_ h
       subst h0_ h
       exact ⟨f78, s3, rfl, (L36.trans L79), HS358, (HO4.mono (L36.trans L79)), trivial⟩
     · have c85 : ¬ (vt76 ≠ 0) := c85
       refine wpRwI 26 (x := (vt76 != 0)) (v := false) (by kernel_rfl) (bne_eq_false_iff_eq.mpr (Decidable.of_not_not c85)) ?_
       refine condF (by kernel_rfl) ?_
       refine wp_skip ?_
       refine hK73 _ _ ?_
       refine wp_seq_k (fun K88 hK89 => ?_)
       refine wp_region_lit ?_
       refine seqL2 (by kernel_rfl) ?_
       refine seqK rfl (does_run (run_load rfl Try.underlying3 rfl (by kernel_rfl : _ = Value.pointer (some ⟨b66, 1, none⟩)) (HS81.cell 1)) ?_)
       refine seqL1 (by kernel_rfl) ?_
       refine wpList_nil ?_
       refine hK89 _ _ ?_
       refine wp_seq_k (fun K90 hK91 => ?_)
       refine wp_region_lit ?_
       obtain ⟨cs92, hr93, hl94⟩ := (HO4.mono (L36.trans L79)).look (z := zero_Row) (zc := #[Value.int .i64 0, Value.int .i64 0, Value.int .i64 0, Value.bool false, Value.int .i64 0, Value.int .i64 0, Value.bool false, Value.int .i64 0, Value.int .i64 0, Value.bool false, Value.int .i64 0, Value.int .i64 0, Value.bool false, Value.int .i64 0, Value.int .i64 0, Value.bool false, Value.slice none 0 0, Value.int .i64 0]) (((rd l7 x40).Row).ID) ⟨none, 0, rfl, SlR.nil _ _⟩
       obtain ⟨A95, c95, rfl, HR95⟩ := hr93
       refine seqL2 (by kernel_rfl) ?_
       refine seqK rfl (does_run (hl94 (ok := true) rfl Try.underlying85 Try.underlying3 (by kernel_rfl) (by kernel_rfl : _ = Value.map (mb A1)) (by kernel_rfl : _ = Value.int .i64 (((rd l7 x40).Row).ID)) HS81.u1) ?_)
       refine seqL3 (by kernel_rfl) ?_
       refine seqK rfl (does_alloc (z := Value.agg #[.int .i64 0, .int .i64 0, .int .i64 0, .bool false, .int .i64 0, .int .i64 0, .bool false, .int .i64 0, .int .i64 0, .bool false, .int .i64 0, .int .i64 0, .bool false, .int .i64 0, .int .i64 0, .bool false, .slice none 0 0, .int .i64 0]) (cs := #[.int .i64 0, .int .i64 0, .int .i64 0, .bool false, .int .i64 0, .int .i64 0, .bool false, .int .i64 0, .int .i64 0, .bool false, .int .i64 0, .int .i64 0, .bool false, .int .i64 0, .int .i64 0, .bool false, .slice none 0 0, .int .i64 0]) rfl (by kernel_rfl) rfl HS81 ?_)
       intro b96 W97 HS98
       refine seqK rfl (does_store (n := 18) (vs := [.int .i64 ((mget zero_Row s5 (((rd l7 x40).Row).ID)).ID), .int .i64 ((((mget zero_Row s5 (((rd l7 x40).Row).ID)).Box).X).Lo), .int .i64 ((((mget zero_Row s5 (((rd l7 x40).Row).ID)).Box).X).Hi), .bool ((((mget zero_Row s5 (((rd l7 x40).Row).ID)).Box).X).Unknown), .int .i64 ((((mget zero_Row s5 (((rd l7 x40).Row).ID)).Box).Y).Lo), .int .i64 ((((mget zero_Row s5 (((rd l7 x40).Row).ID)).Box).Y).Hi), .bool ((((mget zero_Row s5 (((rd l7 x40).Row).ID)).Box).Y).Unknown), .int .i64 ((((mget zero_Row s5 (((rd l7 x40).Row).ID)).Box).Z).Lo), .int .i64 ((((mget zero_Row s5 (((rd l7 x40).Row).ID)).Box).Z).Hi), .bool ((((mget zero_Row s5 (((rd l7 x40).Row).ID)).Box).Z).Unknown), .int .i64 (((mget zero_Row s5 (((rd l7 x40).Row).ID)).Flux).Lo), .int .i64 (((mget zero_Row s5 (((rd l7 x40).Row).ID)).Flux).Hi), .bool (((mget zero_Row s5 (((rd l7 x40).Row).ID)).Flux).Unknown), .int .i64 (((mget zero_Row s5 (((rd l7 x40).Row).ID)).When).Lo), .int .i64 (((mget zero_Row s5 (((rd l7 x40).Row).ID)).When).Hi), .bool (((mget zero_Row s5 (((rd l7 x40).Row).ID)).When).Unknown), .slice A95 ((mget zero_Row s5 (((rd l7 x40).Row).ID)).Frames).length c95, .int .i64 ((mget zero_Row s5 (((rd l7 x40).Row).ID)).Marks)]) (cs' := #[.int .i64 ((mget zero_Row s5 (((rd l7 x40).Row).ID)).ID), .int .i64 ((((mget zero_Row s5 (((rd l7 x40).Row).ID)).Box).X).Lo), .int .i64 ((((mget zero_Row s5 (((rd l7 x40).Row).ID)).Box).X).Hi), .bool ((((mget zero_Row s5 (((rd l7 x40).Row).ID)).Box).X).Unknown), .int .i64 ((((mget zero_Row s5 (((rd l7 x40).Row).ID)).Box).Y).Lo), .int .i64 ((((mget zero_Row s5 (((rd l7 x40).Row).ID)).Box).Y).Hi), .bool ((((mget zero_Row s5 (((rd l7 x40).Row).ID)).Box).Y).Unknown), .int .i64 ((((mget zero_Row s5 (((rd l7 x40).Row).ID)).Box).Z).Lo), .int .i64 ((((mget zero_Row s5 (((rd l7 x40).Row).ID)).Box).Z).Hi), .bool ((((mget zero_Row s5 (((rd l7 x40).Row).ID)).Box).Z).Unknown), .int .i64 (((mget zero_Row s5 (((rd l7 x40).Row).ID)).Flux).Lo), .int .i64 (((mget zero_Row s5 (((rd l7 x40).Row).ID)).Flux).Hi), .bool (((mget zero_Row s5 (((rd l7 x40).Row).ID)).Flux).Unknown), .int .i64 (((mget zero_Row s5 (((rd l7 x40).Row).ID)).When).Lo), .int .i64 (((mget zero_Row s5 (((rd l7 x40).Row).ID)).When).Hi), .bool (((mget zero_Row s5 (((rd l7 x40).Row).ID)).When).Unknown), .slice A95 ((mget zero_Row s5 (((rd l7 x40).Row).ID)).Frames).length c95, .int .i64 ((mget zero_Row s5 (((rd l7 x40).Row).ID)).Marks)]) rfl (by kernel_rfl) (by kernel_rfl : _ = Value.pointer (some ⟨b96, 0, none⟩)) (by kernel_rfl : _ = Value.agg #[.int .i64 ((mget zero_Row s5 (((rd l7 x40).Row).ID)).ID), .int .i64 ((((mget zero_Row s5 (((rd l7 x40).Row).ID)).Box).X).Lo), .int .i64 ((((mget zero_Row s5 (((rd l7 x40).Row).ID)).Box).X).Hi), .bool ((((mget zero_Row s5 (((rd l7 x40).Row).ID)).Box).X).Unknown), .int .i64 ((((mget zero_Row s5 (((rd l7 x40).Row).ID)).Box).Y).Lo), .int .i64 ((((mget zero_Row s5 (((rd l7 x40).Row).ID)).Box).Y).Hi), .bool ((((mget zero_Row s5 (((rd l7 x40).Row).ID)).Box).Y).Unknown), .int .i64 ((((mget zero_Row s5 (((rd l7 x40).Row).ID)).Box).Z).Lo), .int .i64 ((((mget zero_Row s5 (((rd l7 x40).Row).ID)).Box).Z).Hi), .bool ((((mget zero_Row s5 (((rd l7 x40).Row).ID)).Box).Z).Unknown), .int .i64 (((mget zero_Row s5 (((rd l7 x40).Row).ID)).Flux).Lo), .int .i64 (((mget zero_Row s5 (((rd l7 x40).Row).ID)).Flux).Hi), .bool (((mget zero_Row s5 (((rd l7 x40).Row).ID)).Flux).Unknown), .int .i64 (((mget zero_Row s5 (((rd l7 x40).Row).ID)).When).Lo), .int .i64 (((mget zero_Row s5 (((rd l7 x40).Row).ID)).When).Hi), .bool (((mget zero_Row s5 (((rd l7 x40).Row).ID)).When).Unknown), .slice A95 ((mget zero_Row s5 (((rd l7 x40).Row).ID)).Frames).length c95, .int .i64 ((mget zero_Row s5 (((rd l7 x40).Row).ID)).Marks)]) rfl rfl (by intro u_ hu_; simp only [List.mem_cons, List.not_mem_nil, or_false] at hu_; rcases hu_ with rfl | rfl | rfl | rfl | rfl | rfl | rfl | rfl | rfl | rfl | rfl | rfl | rfl | rfl | rfl | rfl | rfl | rfl <;> rfl) HS98 (Nat.le_of_ble_eq_true rfl) (by kernel_rfl) ?_)
       intro W100 HS101
       refine seqS1 (a' := ⟨#[.map (mb A1), .slice A8 l7.length c9, uV, uV, (j39 0), iV x40, pV b66 0, iV vt76, iV (((rd l7 x40).Row).ID), pV b96 0, .bool ((mfind s5 (((rd l7 x40).Row).ID)).isSome), uV, uV, .slice A8 l7.length c9, iV (l7.length : Int), fV, .slice A8 l7.length c9, iV (l7.length : Int), iV x40, tV, iV x40, pV b62 (of63 + (x40 : Int).toNat * 19), (ag_Change (rd l7 x40) A65 c65), (ag_Change (rd l7 x40) A65 c65), iV vt76, iV vt76, fV, (j39 15), pV b66 1, pV b66 1, iV (((rd l7 x40).Row).ID), .tuple #[(ag_Row (mget zero_Row s5 (((rd l7 x40).Row).ID)) A95 c95), .bool ((mfind s5 (((rd l7 x40).Row).ID)).isSome)], .map (mb A1), iV (((rd l7 x40).Row).ID), .tuple #[(ag_Row (mget zero_Row s5 (((rd l7 x40).Row).ID)) A95 c95), .bool ((mfind s5 (((rd l7 x40).Row).ID)).isSome)], (ag_Row (mget zero_Row s5 (((rd l7 x40).Row).ID)) A95 c95), .bool ((mfind s5 (((rd l7 x40).Row).ID)).isSome), (j39 25), (j39 26), (j39 27), (j39 28), (j39 29), (j39 30), (j39 31), (j39 32), (j39 33), (j39 34), (j39 35), (j39 36), (j39 37), (j39 38), (j39 39), (j39 40), (j39 41), (j39 42), (j39 43), (j39 44), (j39 45), (j39 46), (j39 47), (j39 48), (j39 49), (j39 50), (j39 51), (j39 52), (j39 53), (j39 54), uV, uV, uV, uV, uV, uV, uV, uV, uV, uV, uV, uV, uV, uV, uV, uV, uV, uV, uV, uV, uV, uV, uV], []⟩) (by kernel_rfl) ?_
       refine wpList_nil ?_
       refine hK91 _ _ ?_
       refine blockK (fun B102 hx103 hn104 hr105 ho106 hp107 => ?_)
       refine wp_seq_k (fun K109 hK110 => ?_)
       refine wp_region_lit ?_
       refine seqL3 (by kernel_rfl) ?_
       have hq_ := ite_some h; clear h; rcases hq_ with ⟨c111, h⟩ | ⟨c111, h⟩
       · have c111 : x40 > 0 := c111
         refine seqRwI 39 (x := (decide (x40 > 0))) (v := true) (by kernel_rfl) (decide_eq_true c111) ?_
         refine seqRwI 40 (x := (decide (x40 > 0))) (v := true) (by kernel_rfl) (decide_eq_true c111) ?_
         have hq_ := guard_some h; clear h; obtain ⟨c112, h⟩ := hq_
         have c112 : 0 ≤ (w64 (x40 - 1)) := c112
         have hq_ := guard_some h; clear h; obtain ⟨c113, h⟩ := hq_
         have c113 : (w64 (x40 - 1)) < (l7.length : Int) := c113
         obtain ⟨b117, of118, cs114, hA119, hr115, hc116⟩ := (HR10.mono (L36.trans L79)).at (i := w64 (x40 - 1)) c112 c113
         obtain ⟨A120, c120, rfl, HR120⟩ := hr115
         refine seqL4 (by kernel_rfl) ?_
         refine seqG (by kernel_rfl) (does_run (run_indexE hA119 (sz := 19) rfl Try.underlying28 (by kernel_rfl) (by kernel_rfl : _ = Value.slice A8 l7.length c9) (by kernel_rfl : _ = Value.int .i64 (w64 (x40 - 1))) c112 c113 W100) ?_)
         refine seqL2 (by kernel_rfl) ?_
         refine seqG (by kernel_rfl) (does_run (run_load rfl Try.underlying3 rfl (by kernel_rfl : _ = Value.pointer (some ⟨b117, of118 + (w64 (x40 - 1) : Int).toNat * 19 + 1, none⟩)) ((hc116 (FM.le.refl _) HS101) 1 (by decide))) ?_)
         refine seqL3 (by kernel_rfl) ?_
         refine wpList_nil ?_
         refine hK110 _ _ ?_
         have hq_ := ite_some h; clear h; rcases hq_ with ⟨c122, h⟩ | ⟨c122, h⟩
         · have c122 : (((rd l7 x40).Row).ID) ≤ (((rd l7 (w64 (x40 - 1))).Row).ID) := c122
           refine wpRwI 37 (x := (decide ((((rd l7 x40).Row).ID) ≤ (((rd l7 (w64 (x40 - 1))).Row).ID)))) (v := true) (by kernel_rfl) (decide_eq_true c122) ?_
           refine wpRwI 49 (x := (decide ((((rd l7 x40).Row).ID) ≤ (((rd l7 (w64 (x40 - 1))).Row).ID)))) (v := true) (by kernel_rfl) (decide_eq_true c122) ?_
           refine wpRwI 50 (x := (decide ((((rd l7 x40).Row).ID) ≤ (((rd l7 (w64 (x40 - 1))).Row).ID)))) (v := true) (by kernel_rfl) (decide_eq_true c122) ?_
           refine condT (by kernel_rfl) ?_
           refine wp_seq_k (fun K123 hK124 => ?_)
           refine wp_region_lit ?_
           refine seqL1 (by kernel_rfl) ?_
           refine wpList_nil ?_
           refine hK124 _ _ ?_
           refine wp_ret ?_
           refine hr105 _ _ ?_
           refine hr52 _ _ ?_
           refine hr28 _ _ ?_
           refine hret _ _ ?_
           refine ends_still (v := Value.int .i64 11) (by kernel_rfl) (by kernel_rfl) ?_
           have HS359 := HS101.drop
           have HS360 := HS359.drop
           replace h := JR170 _ h
           injection h with h
           injection h with h0_ h
           subst h0_ h
           exact ⟨f78, s3, rfl, (L36.trans L79), HS360, (HO4.mono (L36.trans L79)), trivial⟩
         · have c122 : ¬ ((((rd l7 x40).Row).ID) ≤ (((rd l7 (w64 (x40 - 1))).Row).ID)) := c122
           refine wpRwI 37 (x := (decide ((((rd l7 x40).Row).ID) ≤ (((rd l7 (w64 (x40 - 1))).Row).ID)))) (v := false) (by kernel_rfl) (decide_eq_false c122) ?_
           refine wpRwI 49 (x := (decide ((((rd l7 x40).Row).ID) ≤ (((rd l7 (w64 (x40 - 1))).Row).ID)))) (v := false) (by kernel_rfl) (decide_eq_false c122) ?_
           refine wpRwI 50 (x := (decide ((((rd l7 x40).Row).ID) ≤ (((rd l7 (w64 (x40 - 1))).Row).ID)))) (v := false) (by kernel_rfl) (decide_eq_false c122) ?_
           refine condF (by kernel_rfl) ?_
           refine wp_seq_k (fun K125 hK126 => ?_)
           refine wp_region_lit ?_
           refine seqL1 (by kernel_rfl) ?_
           refine seqK rfl (does_run (run_load rfl Try.underlying3 rfl (by kernel_rfl : _ = Value.pointer (some ⟨b66, 0, none⟩)) (HS101.u1.cell 0)) ?_)
           refine seqS2 (a' := ⟨#[.map (mb A1), .slice A8 l7.length c9, uV, uV, (j39 0), iV x40, pV b66 0, iV vt76, iV (((rd l7 x40).Row).ID), pV b96 0, .bool ((mfind s5 (((rd l7 x40).Row).ID)).isSome), uV, uV, .slice A8 l7.length c9, iV (l7.length : Int), fV, .slice A8 l7.length c9, iV (l7.length : Int), iV x40, tV, iV x40, pV b62 (of63 + (x40 : Int).toNat * 19), (ag_Change (rd l7 x40) A65 c65), (ag_Change (rd l7 x40) A65 c65), iV vt76, iV vt76, fV, (j39 15), pV b66 1, pV b66 1, iV (((rd l7 x40).Row).ID), .tuple #[(ag_Row (mget zero_Row s5 (((rd l7 x40).Row).ID)) A95 c95), .bool ((mfind s5 (((rd l7 x40).Row).ID)).isSome)], .map (mb A1), iV (((rd l7 x40).Row).ID), .tuple #[(ag_Row (mget zero_Row s5 (((rd l7 x40).Row).ID)) A95 c95), .bool ((mfind s5 (((rd l7 x40).Row).ID)).isSome)], (ag_Row (mget zero_Row s5 (((rd l7 x40).Row).ID)) A95 c95), .bool ((mfind s5 (((rd l7 x40).Row).ID)).isSome), fV, iV x40, tV, tV, iV (((rd l7 x40).Row).ID), .slice A8 l7.length c9, iV x40, iV (w64 (x40 - 1)), pV b117 (of118 + (w64 (x40 - 1) : Int).toNat * 19), pV b117 (of118 + (w64 (x40 - 1) : Int).toNat * 19 + 1), pV b117 (of118 + (w64 (x40 - 1) : Int).toNat * 19 + 1), iV (((rd l7 (w64 (x40 - 1))).Row).ID), fV, fV, (j39 39), pV b66 0, iV ((rd l7 x40).Kind), .bool (((rd l7 x40).Kind) == 1), .bool (((rd l7 x40).Kind) == 1), (j39 44), (j39 45), (j39 46), (j39 47), (j39 48), (j39 49), (j39 50), (j39 51), (j39 52), (j39 53), (j39 54), uV, uV, uV, uV, uV, uV, uV, uV, uV, uV, uV, uV, uV, uV, uV, uV, uV, uV, uV, uV, uV, uV, uV], []⟩) (by kernel_rfl) ?_
           have hq_ := ite_some h; clear h; rcases hq_ with ⟨c127, h⟩ | ⟨c127, h⟩
           · have c127 : ((rd l7 x40).Kind) = 1 := c127
             refine seqRwI 54 (x := (((rd l7 x40).Kind) == 1)) (v := true) (by kernel_rfl) (beq_iff_eq.mpr c127) ?_
             refine seqRwI 55 (x := (((rd l7 x40).Kind) == 1)) (v := true) (by kernel_rfl) (beq_iff_eq.mpr c127) ?_
             refine seqL3 (by kernel_rfl) ?_
             refine wpList_nil ?_
             refine hK126 _ _ ?_
             have hq_ := ite_some h; clear h; rcases hq_ with ⟨c129, h⟩ | ⟨c129, h⟩
             · have c129 : ((mfind s5 (((rd l7 x40).Row).ID)).isSome) = true := c129
               refine wpRwI 10 (x := (mfind s5 (((rd l7 x40).Row).ID)).isSome) (v := true) (by kernel_rfl) c129 ?_
               refine wpRwI 36 (x := (mfind s5 (((rd l7 x40).Row).ID)).isSome) (v := true) (by kernel_rfl) c129 ?_
               refine wpRwI 51 (x := (mfind s5 (((rd l7 x40).Row).ID)).isSome) (v := true) (by kernel_rfl) c129 ?_
               refine wpRwI 56 (x := (mfind s5 (((rd l7 x40).Row).ID)).isSome) (v := true) (by kernel_rfl) c129 ?_
               refine wpRwI 57 (x := (mfind s5 (((rd l7 x40).Row).ID)).isSome) (v := true) (by kernel_rfl) c129 ?_
               refine condT (by kernel_rfl) ?_
               refine wp_seq_k (fun K130 hK131 => ?_)
               refine wp_region_lit ?_
               refine seqL1 (by kernel_rfl) ?_
               refine wpList_nil ?_
               refine hK131 _ _ ?_
               refine wp_ret ?_
               refine hr105 _ _ ?_
               refine hr52 _ _ ?_
               refine hr28 _ _ ?_
               refine hret _ _ ?_
               refine ends_still (v := Value.int .i64 7) (by kernel_rfl) (by kernel_rfl) ?_
               have HS361 := HS101.drop
               have HS362 := HS361.drop
               replace h := JR170 _ h
               injection h with h
               injection h with h0_ h
               subst h0_ h
               exact ⟨f78, s3, rfl, (L36.trans L79), HS362, (HO4.mono (L36.trans L79)), trivial⟩
             · have c129 : ¬ (((mfind s5 (((rd l7 x40).Row).ID)).isSome) = true) := c129
               refine wpRwI 10 (x := (mfind s5 (((rd l7 x40).Row).ID)).isSome) (v := false) (by kernel_rfl) (Bool.eq_false_iff.mpr c129) ?_
               refine wpRwI 36 (x := (mfind s5 (((rd l7 x40).Row).ID)).isSome) (v := false) (by kernel_rfl) (Bool.eq_false_iff.mpr c129) ?_
               refine wpRwI 51 (x := (mfind s5 (((rd l7 x40).Row).ID)).isSome) (v := false) (by kernel_rfl) (Bool.eq_false_iff.mpr c129) ?_
               refine wpRwI 56 (x := (mfind s5 (((rd l7 x40).Row).ID)).isSome) (v := false) (by kernel_rfl) (Bool.eq_false_iff.mpr c129) ?_
               refine wpRwI 57 (x := (mfind s5 (((rd l7 x40).Row).ID)).isSome) (v := false) (by kernel_rfl) (Bool.eq_false_iff.mpr c129) ?_
               refine condF (by kernel_rfl) ?_
               refine wp_seq_k (fun K132 hK133 => ?_)
               refine wp_region_lit ?_
               refine seqL1 (by kernel_rfl) ?_
               refine seqK rfl (does_run (run_load rfl Try.underlying3 rfl (by kernel_rfl : _ = Value.pointer (some ⟨b66, 0, none⟩)) (HS101.u1.cell 0)) ?_)
               refine seqL2 (by kernel_rfl) ?_
               have hq_ := ite_some h; clear h; rcases hq_ with ⟨c134, h⟩ | ⟨c134, h⟩
               · have c134 : ((rd l7 x40).Kind) ≠ 1 := c134
                 refine seqRwI 61 (x := (((rd l7 x40).Kind) != 1)) (v := true) (by kernel_rfl) (bne_iff_ne.mpr c134) ?_
                 refine seqRwI 62 (x := (((rd l7 x40).Kind) != 1)) (v := true) (by kernel_rfl) (bne_iff_ne.mpr c134) ?_
                 refine seqL4 (by kernel_rfl) ?_
                 refine wpList_nil ?_
                 refine hK133 _ _ ?_
                 refine condT (by kernel_rfl) ?_
                 refine wp_seq_k (fun K135 hK136 => ?_)
                 refine wp_region_lit ?_
                 refine seqL1 (by kernel_rfl) ?_
                 refine wpList_nil ?_
                 refine hK136 _ _ ?_
                 refine wp_ret ?_
                 refine hr105 _ _ ?_
                 refine hr52 _ _ ?_
                 refine hr28 _ _ ?_
                 refine hret _ _ ?_
                 refine ends_still (v := Value.int .i64 8) (by kernel_rfl) (by kernel_rfl) ?_
                 have HS363 := HS101.drop
                 have HS364 := HS363.drop
                 replace h := JR170 _ h
                 injection h with h
                 injection h with h0_ h
                 subst h0_ h
                 exact ⟨f78, s3, rfl, (L36.trans L79), HS364, (HO4.mono (L36.trans L79)), trivial⟩
               · have c134 : ¬ (((rd l7 x40).Kind) ≠ 1) := c134
                 refine seqRwI 61 (x := (((rd l7 x40).Kind) != 1)) (v := false) (by kernel_rfl) (bne_eq_false_iff_eq.mpr (Decidable.of_not_not c134)) ?_
                 refine seqRwI 62 (x := (((rd l7 x40).Kind) != 1)) (v := false) (by kernel_rfl) (bne_eq_false_iff_eq.mpr (Decidable.of_not_not c134)) ?_
                 refine seqL4 (by kernel_rfl) ?_
                 refine wpList_nil ?_
                 refine hK133 _ _ ?_
                 refine condF (by kernel_rfl) ?_
                 refine wp_skip ?_
                 refine hn104 _ _ ?_
                 refine hn51 _ _ ?_
                 refine hK48 _ _ ?_
                 refine wp_region_lit ?_
                 refine seqL2 (by kernel_rfl) ?_
                 refine wpList_nil ?_
                 refine hK33 n34 _ _ (Nat.lt_succ_self _) ?_
                 have HS172 := HS101.u2
                 have HS173 := HS172.u2
                 have HS174 := HS173.u2
                 have HS175 := HS174.drop
                 have HS176 := HS175.drop
                 exact ⟨f78, (w64 (x40 + 1)), (fun i_ => [(j39 0), Value.int .i64 x40, Value.pointer (some ⟨b66, 0, none⟩), Value.int .i64 vt76, Value.int .i64 (((rd l7 x40).Row).ID), Value.pointer (some ⟨b96, 0, none⟩), Value.bool false, Value.bool true, Value.int .i64 x40, Value.pointer (some ⟨b62, of63 + (x40 : Int).toNat * 19, none⟩), (ag_Change (rd l7 x40) A65 c65), (ag_Change (rd l7 x40) A65 c65), Value.int .i64 vt76, Value.int .i64 vt76, Value.bool false, (j39 15), Value.pointer (some ⟨b66, 1, none⟩), Value.pointer (some ⟨b66, 1, none⟩), Value.int .i64 (((rd l7 x40).Row).ID), Value.tuple #[(ag_Row (mget zero_Row s5 (((rd l7 x40).Row).ID)) A95 c95), .bool ((mfind s5 (((rd l7 x40).Row).ID)).isSome)], Value.map (mb A1), Value.int .i64 (((rd l7 x40).Row).ID), Value.tuple #[(ag_Row (mget zero_Row s5 (((rd l7 x40).Row).ID)) A95 c95), .bool ((mfind s5 (((rd l7 x40).Row).ID)).isSome)], (ag_Row (mget zero_Row s5 (((rd l7 x40).Row).ID)) A95 c95), Value.bool false, Value.bool false, Value.int .i64 x40, Value.bool true, Value.bool true, Value.int .i64 (((rd l7 x40).Row).ID), Value.slice A8 l7.length c9, Value.int .i64 x40, Value.int .i64 (w64 (x40 - 1)), Value.pointer (some ⟨b117, of118 + (w64 (x40 - 1) : Int).toNat * 19, none⟩), Value.pointer (some ⟨b117, of118 + (w64 (x40 - 1) : Int).toNat * 19 + 1, none⟩), Value.pointer (some ⟨b117, of118 + (w64 (x40 - 1) : Int).toNat * 19 + 1, none⟩), Value.int .i64 (((rd l7 (w64 (x40 - 1))).Row).ID), Value.bool false, Value.bool false, Value.bool false, Value.pointer (some ⟨b66, 0, none⟩), Value.int .i64 ((rd l7 x40).Kind), Value.bool true, Value.bool true, Value.bool false, Value.bool false, Value.bool false, Value.pointer (some ⟨b66, 0, none⟩), Value.int .i64 ((rd l7 x40).Kind), Value.bool false, Value.bool false, undef, undef, Value.bool false, Value.int .i64 (w64 (x40 + 1))].getD i_ undef), (L36.trans L79), HS176, h, (by kernel_rfl)⟩
           · have c127 : ¬ (((rd l7 x40).Kind) = 1) := c127
             refine seqRwI 54 (x := (((rd l7 x40).Kind) == 1)) (v := false) (by kernel_rfl) (beq_eq_false_iff_ne.mpr c127) ?_
             refine seqRwI 55 (x := (((rd l7 x40).Kind) == 1)) (v := false) (by kernel_rfl) (beq_eq_false_iff_ne.mpr c127) ?_
             refine seqL3 (by kernel_rfl) ?_
             refine wpList_nil ?_
             refine hK126 _ _ ?_
             refine condF (by kernel_rfl) ?_
             refine wp_seq_k (fun K137 hK138 => ?_)
             refine wp_region_lit ?_
             refine seqL1 (by kernel_rfl) ?_
             refine seqK rfl (does_run (run_load rfl Try.underlying3 rfl (by kernel_rfl : _ = Value.pointer (some ⟨b66, 0, none⟩)) (HS101.u1.cell 0)) ?_)
             refine seqL2 (by kernel_rfl) ?_
             have hq_ := ite_some h; clear h; rcases hq_ with ⟨c139, h⟩ | ⟨c139, h⟩
             · have c139 : ((rd l7 x40).Kind) ≠ 1 := c139
               refine seqRwI 61 (x := (((rd l7 x40).Kind) != 1)) (v := true) (by kernel_rfl) (bne_iff_ne.mpr c139) ?_
               refine seqRwI 62 (x := (((rd l7 x40).Kind) != 1)) (v := true) (by kernel_rfl) (bne_iff_ne.mpr c139) ?_
               refine seqL4 (by kernel_rfl) ?_
               refine wpList_nil ?_
               refine hK138 _ _ ?_
               have hq_ := ite_some h; clear h; rcases hq_ with ⟨c141, h⟩ | ⟨c141, h⟩
               · have c141 : ¬ (((mfind s5 (((rd l7 x40).Row).ID)).isSome) = true) := c141
                 refine wpRwI 58 (x := (!((mfind s5 (((rd l7 x40).Row).ID)).isSome))) (v := true) (by kernel_rfl) (congrArg (fun b_ => !b_) (show (mfind s5 (((rd l7 x40).Row).ID)).isSome = false from (Bool.eq_false_iff.mpr c141)) : (!((mfind s5 (((rd l7 x40).Row).ID)).isSome)) = true) ?_
                 refine wpRwI 64 (x := (!((mfind s5 (((rd l7 x40).Row).ID)).isSome))) (v := true) (by kernel_rfl) (congrArg (fun b_ => !b_) (show (mfind s5 (((rd l7 x40).Row).ID)).isSome = false from (Bool.eq_false_iff.mpr c141)) : (!((mfind s5 (((rd l7 x40).Row).ID)).isSome)) = true) ?_
                 refine wpRwI 65 (x := (!((mfind s5 (((rd l7 x40).Row).ID)).isSome))) (v := true) (by kernel_rfl) (congrArg (fun b_ => !b_) (show (mfind s5 (((rd l7 x40).Row).ID)).isSome = false from (Bool.eq_false_iff.mpr c141)) : (!((mfind s5 (((rd l7 x40).Row).ID)).isSome)) = true) ?_
                 refine condT (by kernel_rfl) ?_
                 refine wp_seq_k (fun K142 hK143 => ?_)
                 refine wp_region_lit ?_
                 refine seqL1 (by kernel_rfl) ?_
                 refine wpList_nil ?_
                 refine hK143 _ _ ?_
                 refine wp_ret ?_
                 refine hr105 _ _ ?_
                 refine hr52 _ _ ?_
                 refine hr28 _ _ ?_
                 refine hret _ _ ?_
                 refine ends_still (v := Value.int .i64 8) (by kernel_rfl) (by kernel_rfl) ?_
                 have HS365 := HS101.drop
                 have HS366 := HS365.drop
                 replace h := JR170 _ h
                 injection h with h
                 injection h with h0_ h
                 subst h0_ h
                 exact ⟨f78, s3, rfl, (L36.trans L79), HS366, (HO4.mono (L36.trans L79)), trivial⟩
               · have c141 : ¬ (¬ (((mfind s5 (((rd l7 x40).Row).ID)).isSome) = true)) := c141
                 refine wpRwI 58 (x := (!((mfind s5 (((rd l7 x40).Row).ID)).isSome))) (v := false) (by kernel_rfl) (congrArg (fun b_ => !b_) (show (mfind s5 (((rd l7 x40).Row).ID)).isSome = true from (Decidable.of_not_not c141)) : (!((mfind s5 (((rd l7 x40).Row).ID)).isSome)) = false) ?_
                 refine wpRwI 64 (x := (!((mfind s5 (((rd l7 x40).Row).ID)).isSome))) (v := false) (by kernel_rfl) (congrArg (fun b_ => !b_) (show (mfind s5 (((rd l7 x40).Row).ID)).isSome = true from (Decidable.of_not_not c141)) : (!((mfind s5 (((rd l7 x40).Row).ID)).isSome)) = false) ?_
                 refine wpRwI 65 (x := (!((mfind s5 (((rd l7 x40).Row).ID)).isSome))) (v := false) (by kernel_rfl) (congrArg (fun b_ => !b_) (show (mfind s5 (((rd l7 x40).Row).ID)).isSome = true from (Decidable.of_not_not c141)) : (!((mfind s5 (((rd l7 x40).Row).ID)).isSome)) = false) ?_
                 refine condF (by kernel_rfl) ?_
                 refine wp_skip ?_
                 refine hn104 _ _ ?_
                 refine hn51 _ _ ?_
                 refine hK48 _ _ ?_
                 refine wp_region_lit ?_
                 refine seqL2 (by kernel_rfl) ?_
                 refine wpList_nil ?_
                 refine hK33 n34 _ _ (Nat.lt_succ_self _) ?_
                 have HS177 := HS101.u2
                 have HS178 := HS177.u2
                 have HS179 := HS178.u2
                 have HS180 := HS179.drop
                 have HS181 := HS180.drop
                 exact ⟨f78, (w64 (x40 + 1)), (fun i_ => [(j39 0), Value.int .i64 x40, Value.pointer (some ⟨b66, 0, none⟩), Value.int .i64 vt76, Value.int .i64 (((rd l7 x40).Row).ID), Value.pointer (some ⟨b96, 0, none⟩), Value.bool ((mfind s5 (((rd l7 x40).Row).ID)).isSome), Value.bool true, Value.int .i64 x40, Value.pointer (some ⟨b62, of63 + (x40 : Int).toNat * 19, none⟩), (ag_Change (rd l7 x40) A65 c65), (ag_Change (rd l7 x40) A65 c65), Value.int .i64 vt76, Value.int .i64 vt76, Value.bool false, (j39 15), Value.pointer (some ⟨b66, 1, none⟩), Value.pointer (some ⟨b66, 1, none⟩), Value.int .i64 (((rd l7 x40).Row).ID), Value.tuple #[(ag_Row (mget zero_Row s5 (((rd l7 x40).Row).ID)) A95 c95), .bool ((mfind s5 (((rd l7 x40).Row).ID)).isSome)], Value.map (mb A1), Value.int .i64 (((rd l7 x40).Row).ID), Value.tuple #[(ag_Row (mget zero_Row s5 (((rd l7 x40).Row).ID)) A95 c95), .bool ((mfind s5 (((rd l7 x40).Row).ID)).isSome)], (ag_Row (mget zero_Row s5 (((rd l7 x40).Row).ID)) A95 c95), Value.bool ((mfind s5 (((rd l7 x40).Row).ID)).isSome), Value.bool false, Value.int .i64 x40, Value.bool true, Value.bool true, Value.int .i64 (((rd l7 x40).Row).ID), Value.slice A8 l7.length c9, Value.int .i64 x40, Value.int .i64 (w64 (x40 - 1)), Value.pointer (some ⟨b117, of118 + (w64 (x40 - 1) : Int).toNat * 19, none⟩), Value.pointer (some ⟨b117, of118 + (w64 (x40 - 1) : Int).toNat * 19 + 1, none⟩), Value.pointer (some ⟨b117, of118 + (w64 (x40 - 1) : Int).toNat * 19 + 1, none⟩), Value.int .i64 (((rd l7 (w64 (x40 - 1))).Row).ID), Value.bool false, Value.bool false, Value.bool false, Value.pointer (some ⟨b66, 0, none⟩), Value.int .i64 ((rd l7 x40).Kind), Value.bool false, Value.bool false, undef, Value.bool false, Value.bool false, Value.pointer (some ⟨b66, 0, none⟩), Value.int .i64 ((rd l7 x40).Kind), Value.bool true, Value.bool true, Value.bool ((mfind s5 (((rd l7 x40).Row).ID)).isSome), Value.bool false, Value.bool false, Value.int .i64 (w64 (x40 + 1))].getD i_ undef), (L36.trans L79), HS181, h, (by kernel_rfl)⟩
             · have c139 : ¬ (((rd l7 x40).Kind) ≠ 1) := c139
               refine seqRwI 61 (x := (((rd l7 x40).Kind) != 1)) (v := false) (by kernel_rfl) (bne_eq_false_iff_eq.mpr (Decidable.of_not_not c139)) ?_
               refine seqRwI 62 (x := (((rd l7 x40).Kind) != 1)) (v := false) (by kernel_rfl) (bne_eq_false_iff_eq.mpr (Decidable.of_not_not c139)) ?_
               refine seqL4 (by kernel_rfl) ?_
               refine wpList_nil ?_
               refine hK138 _ _ ?_
               refine condF (by kernel_rfl) ?_
               refine wp_skip ?_
               refine hn104 _ _ ?_
               refine hn51 _ _ ?_
               refine hK48 _ _ ?_
               refine wp_region_lit ?_
               refine seqL2 (by kernel_rfl) ?_
               refine wpList_nil ?_
               refine hK33 n34 _ _ (Nat.lt_succ_self _) ?_
               have HS182 := HS101.u2
               have HS183 := HS182.u2
               have HS184 := HS183.u2
               have HS185 := HS184.drop
               have HS186 := HS185.drop
               exact ⟨f78, (w64 (x40 + 1)), (fun i_ => [(j39 0), Value.int .i64 x40, Value.pointer (some ⟨b66, 0, none⟩), Value.int .i64 vt76, Value.int .i64 (((rd l7 x40).Row).ID), Value.pointer (some ⟨b96, 0, none⟩), Value.bool ((mfind s5 (((rd l7 x40).Row).ID)).isSome), Value.bool true, Value.int .i64 x40, Value.pointer (some ⟨b62, of63 + (x40 : Int).toNat * 19, none⟩), (ag_Change (rd l7 x40) A65 c65), (ag_Change (rd l7 x40) A65 c65), Value.int .i64 vt76, Value.int .i64 vt76, Value.bool false, (j39 15), Value.pointer (some ⟨b66, 1, none⟩), Value.pointer (some ⟨b66, 1, none⟩), Value.int .i64 (((rd l7 x40).Row).ID), Value.tuple #[(ag_Row (mget zero_Row s5 (((rd l7 x40).Row).ID)) A95 c95), .bool ((mfind s5 (((rd l7 x40).Row).ID)).isSome)], Value.map (mb A1), Value.int .i64 (((rd l7 x40).Row).ID), Value.tuple #[(ag_Row (mget zero_Row s5 (((rd l7 x40).Row).ID)) A95 c95), .bool ((mfind s5 (((rd l7 x40).Row).ID)).isSome)], (ag_Row (mget zero_Row s5 (((rd l7 x40).Row).ID)) A95 c95), Value.bool ((mfind s5 (((rd l7 x40).Row).ID)).isSome), Value.bool false, Value.int .i64 x40, Value.bool true, Value.bool true, Value.int .i64 (((rd l7 x40).Row).ID), Value.slice A8 l7.length c9, Value.int .i64 x40, Value.int .i64 (w64 (x40 - 1)), Value.pointer (some ⟨b117, of118 + (w64 (x40 - 1) : Int).toNat * 19, none⟩), Value.pointer (some ⟨b117, of118 + (w64 (x40 - 1) : Int).toNat * 19 + 1, none⟩), Value.pointer (some ⟨b117, of118 + (w64 (x40 - 1) : Int).toNat * 19 + 1, none⟩), Value.int .i64 (((rd l7 (w64 (x40 - 1))).Row).ID), Value.bool false, Value.bool false, Value.bool false, Value.pointer (some ⟨b66, 0, none⟩), Value.int .i64 ((rd l7 x40).Kind), Value.bool false, Value.bool false, undef, Value.bool false, Value.bool false, Value.pointer (some ⟨b66, 0, none⟩), Value.int .i64 ((rd l7 x40).Kind), Value.bool false, Value.bool false, undef, undef, Value.bool false, Value.int .i64 (w64 (x40 + 1))].getD i_ undef), (L36.trans L79), HS186, h, (by kernel_rfl)⟩
       · have c111 : ¬ (x40 > 0) := c111
         refine seqRwI 39 (x := (decide (x40 > 0))) (v := false) (by kernel_rfl) (decide_eq_false c111) ?_
         refine seqRwI 40 (x := (decide (x40 > 0))) (v := false) (by kernel_rfl) (decide_eq_false c111) ?_
         refine seqL11 (by kernel_rfl) ?_
         refine wpList_nil ?_
         refine hK110 _ _ ?_
         refine condF (by kernel_rfl) ?_
         refine wp_seq_k (fun K144 hK145 => ?_)
         refine wp_region_lit ?_
         refine seqL1 (by kernel_rfl) ?_
         refine seqK rfl (does_run (run_load rfl Try.underlying3 rfl (by kernel_rfl : _ = Value.pointer (some ⟨b66, 0, none⟩)) (HS101.u1.cell 0)) ?_)
         refine seqS2 (a' := ⟨#[.map (mb A1), .slice A8 l7.length c9, uV, uV, (j39 0), iV x40, pV b66 0, iV vt76, iV (((rd l7 x40).Row).ID), pV b96 0, .bool ((mfind s5 (((rd l7 x40).Row).ID)).isSome), uV, uV, .slice A8 l7.length c9, iV (l7.length : Int), fV, .slice A8 l7.length c9, iV (l7.length : Int), iV x40, tV, iV x40, pV b62 (of63 + (x40 : Int).toNat * 19), (ag_Change (rd l7 x40) A65 c65), (ag_Change (rd l7 x40) A65 c65), iV vt76, iV vt76, fV, (j39 15), pV b66 1, pV b66 1, iV (((rd l7 x40).Row).ID), .tuple #[(ag_Row (mget zero_Row s5 (((rd l7 x40).Row).ID)) A95 c95), .bool ((mfind s5 (((rd l7 x40).Row).ID)).isSome)], .map (mb A1), iV (((rd l7 x40).Row).ID), .tuple #[(ag_Row (mget zero_Row s5 (((rd l7 x40).Row).ID)) A95 c95), .bool ((mfind s5 (((rd l7 x40).Row).ID)).isSome)], (ag_Row (mget zero_Row s5 (((rd l7 x40).Row).ID)) A95 c95), .bool ((mfind s5 (((rd l7 x40).Row).ID)).isSome), fV, iV x40, fV, fV, uV, uV, uV, uV, uV, uV, uV, uV, uV, fV, (j39 39), pV b66 0, iV ((rd l7 x40).Kind), .bool (((rd l7 x40).Kind) == 1), .bool (((rd l7 x40).Kind) == 1), (j39 44), (j39 45), (j39 46), (j39 47), (j39 48), (j39 49), (j39 50), (j39 51), (j39 52), (j39 53), (j39 54), uV, uV, uV, uV, uV, uV, uV, uV, uV, uV, uV, uV, uV, uV, uV, uV, uV, uV, uV, uV, uV, uV, uV], []⟩) (by kernel_rfl) ?_
         have hq_ := ite_some h; clear h; rcases hq_ with ⟨c146, h⟩ | ⟨c146, h⟩
         · have c146 : ((rd l7 x40).Kind) = 1 := c146
           refine seqRwI 54 (x := (((rd l7 x40).Kind) == 1)) (v := true) (by kernel_rfl) (beq_iff_eq.mpr c146) ?_
           refine seqRwI 55 (x := (((rd l7 x40).Kind) == 1)) (v := true) (by kernel_rfl) (beq_iff_eq.mpr c146) ?_
           refine seqL3 (by kernel_rfl) ?_
           refine wpList_nil ?_
           refine hK145 _ _ ?_
           have hq_ := ite_some h; clear h; rcases hq_ with ⟨c148, h⟩ | ⟨c148, h⟩
           · have c148 : ((mfind s5 (((rd l7 x40).Row).ID)).isSome) = true := c148
             refine wpRwI 10 (x := (mfind s5 (((rd l7 x40).Row).ID)).isSome) (v := true) (by kernel_rfl) c148 ?_
             refine wpRwI 36 (x := (mfind s5 (((rd l7 x40).Row).ID)).isSome) (v := true) (by kernel_rfl) c148 ?_
             refine wpRwI 51 (x := (mfind s5 (((rd l7 x40).Row).ID)).isSome) (v := true) (by kernel_rfl) c148 ?_
             refine wpRwI 56 (x := (mfind s5 (((rd l7 x40).Row).ID)).isSome) (v := true) (by kernel_rfl) c148 ?_
             refine wpRwI 57 (x := (mfind s5 (((rd l7 x40).Row).ID)).isSome) (v := true) (by kernel_rfl) c148 ?_
             refine condT (by kernel_rfl) ?_
             refine wp_seq_k (fun K149 hK150 => ?_)
             refine wp_region_lit ?_
             refine seqL1 (by kernel_rfl) ?_
             refine wpList_nil ?_
             refine hK150 _ _ ?_
             refine wp_ret ?_
             refine hr105 _ _ ?_
             refine hr52 _ _ ?_
             refine hr28 _ _ ?_
             refine hret _ _ ?_
             refine ends_still (v := Value.int .i64 7) (by kernel_rfl) (by kernel_rfl) ?_
             have HS367 := HS101.drop
             have HS368 := HS367.drop
             replace h := JR170 _ h
             injection h with h
             injection h with h0_ h
             subst h0_ h
             exact ⟨f78, s3, rfl, (L36.trans L79), HS368, (HO4.mono (L36.trans L79)), trivial⟩
           · have c148 : ¬ (((mfind s5 (((rd l7 x40).Row).ID)).isSome) = true) := c148
             refine wpRwI 10 (x := (mfind s5 (((rd l7 x40).Row).ID)).isSome) (v := false) (by kernel_rfl) (Bool.eq_false_iff.mpr c148) ?_
             refine wpRwI 36 (x := (mfind s5 (((rd l7 x40).Row).ID)).isSome) (v := false) (by kernel_rfl) (Bool.eq_false_iff.mpr c148) ?_
             refine wpRwI 51 (x := (mfind s5 (((rd l7 x40).Row).ID)).isSome) (v := false) (by kernel_rfl) (Bool.eq_false_iff.mpr c148) ?_
             refine wpRwI 56 (x := (mfind s5 (((rd l7 x40).Row).ID)).isSome) (v := false) (by kernel_rfl) (Bool.eq_false_iff.mpr c148) ?_
             refine wpRwI 57 (x := (mfind s5 (((rd l7 x40).Row).ID)).isSome) (v := false) (by kernel_rfl) (Bool.eq_false_iff.mpr c148) ?_
             refine condF (by kernel_rfl) ?_
             refine wp_seq_k (fun K151 hK152 => ?_)
             refine wp_region_lit ?_
             refine seqL1 (by kernel_rfl) ?_
             refine seqK rfl (does_run (run_load rfl Try.underlying3 rfl (by kernel_rfl : _ = Value.pointer (some ⟨b66, 0, none⟩)) (HS101.u1.cell 0)) ?_)
             refine seqL2 (by kernel_rfl) ?_
             have hq_ := ite_some h; clear h; rcases hq_ with ⟨c153, h⟩ | ⟨c153, h⟩
             · have c153 : ((rd l7 x40).Kind) ≠ 1 := c153
               refine seqRwI 61 (x := (((rd l7 x40).Kind) != 1)) (v := true) (by kernel_rfl) (bne_iff_ne.mpr c153) ?_
               refine seqRwI 62 (x := (((rd l7 x40).Kind) != 1)) (v := true) (by kernel_rfl) (bne_iff_ne.mpr c153) ?_
               refine seqL4 (by kernel_rfl) ?_
               refine wpList_nil ?_
               refine hK152 _ _ ?_
               refine condT (by kernel_rfl) ?_
               refine wp_seq_k (fun K154 hK155 => ?_)
               refine wp_region_lit ?_
               refine seqL1 (by kernel_rfl) ?_
               refine wpList_nil ?_
               refine hK155 _ _ ?_
               refine wp_ret ?_
               refine hr105 _ _ ?_
               refine hr52 _ _ ?_
               refine hr28 _ _ ?_
               refine hret _ _ ?_
               refine ends_still (v := Value.int .i64 8) (by kernel_rfl) (by kernel_rfl) ?_
               have HS369 := HS101.drop
               have HS370 := HS369.drop
               replace h := JR170 _ h
               injection h with h
               injection h with h0_ h
               subst h0_ h
               exact ⟨f78, s3, rfl, (L36.trans L79), HS370, (HO4.mono (L36.trans L79)), trivial⟩
             · have c153 : ¬ (((rd l7 x40).Kind) ≠ 1) := c153
               refine seqRwI 61 (x := (((rd l7 x40).Kind) != 1)) (v := false) (by kernel_rfl) (bne_eq_false_iff_eq.mpr (Decidable.of_not_not c153)) ?_
               refine seqRwI 62 (x := (((rd l7 x40).Kind) != 1)) (v := false) (by kernel_rfl) (bne_eq_false_iff_eq.mpr (Decidable.of_not_not c153)) ?_
               refine seqL4 (by kernel_rfl) ?_
               refine wpList_nil ?_
               refine hK152 _ _ ?_
               refine condF (by kernel_rfl) ?_
               refine wp_skip ?_
               refine hn104 _ _ ?_
               refine hn51 _ _ ?_
               refine hK48 _ _ ?_
               refine wp_region_lit ?_
               refine seqL2 (by kernel_rfl) ?_
               refine wpList_nil ?_
               refine hK33 n34 _ _ (Nat.lt_succ_self _) ?_
               have HS187 := HS101.u2
               have HS188 := HS187.u2
               have HS189 := HS188.u2
               have HS190 := HS189.drop
               have HS191 := HS190.drop
               exact ⟨f78, (w64 (x40 + 1)), (fun i_ => [(j39 0), Value.int .i64 x40, Value.pointer (some ⟨b66, 0, none⟩), Value.int .i64 vt76, Value.int .i64 (((rd l7 x40).Row).ID), Value.pointer (some ⟨b96, 0, none⟩), Value.bool false, Value.bool true, Value.int .i64 x40, Value.pointer (some ⟨b62, of63 + (x40 : Int).toNat * 19, none⟩), (ag_Change (rd l7 x40) A65 c65), (ag_Change (rd l7 x40) A65 c65), Value.int .i64 vt76, Value.int .i64 vt76, Value.bool false, (j39 15), Value.pointer (some ⟨b66, 1, none⟩), Value.pointer (some ⟨b66, 1, none⟩), Value.int .i64 (((rd l7 x40).Row).ID), Value.tuple #[(ag_Row (mget zero_Row s5 (((rd l7 x40).Row).ID)) A95 c95), .bool ((mfind s5 (((rd l7 x40).Row).ID)).isSome)], Value.map (mb A1), Value.int .i64 (((rd l7 x40).Row).ID), Value.tuple #[(ag_Row (mget zero_Row s5 (((rd l7 x40).Row).ID)) A95 c95), .bool ((mfind s5 (((rd l7 x40).Row).ID)).isSome)], (ag_Row (mget zero_Row s5 (((rd l7 x40).Row).ID)) A95 c95), Value.bool false, Value.bool false, Value.int .i64 x40, Value.bool false, Value.bool false, undef, undef, undef, undef, undef, undef, undef, undef, undef, Value.bool false, Value.bool false, Value.pointer (some ⟨b66, 0, none⟩), Value.int .i64 ((rd l7 x40).Kind), Value.bool true, Value.bool true, Value.bool false, Value.bool false, Value.bool false, Value.pointer (some ⟨b66, 0, none⟩), Value.int .i64 ((rd l7 x40).Kind), Value.bool false, Value.bool false, undef, undef, Value.bool false, Value.int .i64 (w64 (x40 + 1))].getD i_ undef), (L36.trans L79), HS191, h, (by kernel_rfl)⟩
         · have c146 : ¬ (((rd l7 x40).Kind) = 1) := c146
           refine seqRwI 54 (x := (((rd l7 x40).Kind) == 1)) (v := false) (by kernel_rfl) (beq_eq_false_iff_ne.mpr c146) ?_
           refine seqRwI 55 (x := (((rd l7 x40).Kind) == 1)) (v := false) (by kernel_rfl) (beq_eq_false_iff_ne.mpr c146) ?_
           refine seqL3 (by kernel_rfl) ?_
           refine wpList_nil ?_
           refine hK145 _ _ ?_
           refine condF (by kernel_rfl) ?_
           refine wp_seq_k (fun K156 hK157 => ?_)
           refine wp_region_lit ?_
           refine seqL1 (by kernel_rfl) ?_
           refine seqK rfl (does_run (run_load rfl Try.underlying3 rfl (by kernel_rfl : _ = Value.pointer (some ⟨b66, 0, none⟩)) (HS101.u1.cell 0)) ?_)
           refine seqL2 (by kernel_rfl) ?_
           have hq_ := ite_some h; clear h; rcases hq_ with ⟨c158, h⟩ | ⟨c158, h⟩
           · have c158 : ((rd l7 x40).Kind) ≠ 1 := c158
             refine seqRwI 61 (x := (((rd l7 x40).Kind) != 1)) (v := true) (by kernel_rfl) (bne_iff_ne.mpr c158) ?_
             refine seqRwI 62 (x := (((rd l7 x40).Kind) != 1)) (v := true) (by kernel_rfl) (bne_iff_ne.mpr c158) ?_
             refine seqL4 (by kernel_rfl) ?_
             refine wpList_nil ?_
             refine hK157 _ _ ?_
             have hq_ := ite_some h; clear h; rcases hq_ with ⟨c160, h⟩ | ⟨c160, h⟩
             · have c160 : ¬ (((mfind s5 (((rd l7 x40).Row).ID)).isSome) = true) := c160
               refine wpRwI 58 (x := (!((mfind s5 (((rd l7 x40).Row).ID)).isSome))) (v := true) (by kernel_rfl) (congrArg (fun b_ => !b_) (show (mfind s5 (((rd l7 x40).Row).ID)).isSome = false from (Bool.eq_false_iff.mpr c160)) : (!((mfind s5 (((rd l7 x40).Row).ID)).isSome)) = true) ?_
               refine wpRwI 64 (x := (!((mfind s5 (((rd l7 x40).Row).ID)).isSome))) (v := true) (by kernel_rfl) (congrArg (fun b_ => !b_) (show (mfind s5 (((rd l7 x40).Row).ID)).isSome = false from (Bool.eq_false_iff.mpr c160)) : (!((mfind s5 (((rd l7 x40).Row).ID)).isSome)) = true) ?_
               refine wpRwI 65 (x := (!((mfind s5 (((rd l7 x40).Row).ID)).isSome))) (v := true) (by kernel_rfl) (congrArg (fun b_ => !b_) (show (mfind s5 (((rd l7 x40).Row).ID)).isSome = false from (Bool.eq_false_iff.mpr c160)) : (!((mfind s5 (((rd l7 x40).Row).ID)).isSome)) = true) ?_
               refine condT (by kernel_rfl) ?_
               refine wp_seq_k (fun K161 hK162 => ?_)
               refine wp_region_lit ?_
               refine seqL1 (by kernel_rfl) ?_
               refine wpList_nil ?_
               refine hK162 _ _ ?_
               refine wp_ret ?_
               refine hr105 _ _ ?_
               refine hr52 _ _ ?_
               refine hr28 _ _ ?_
               refine hret _ _ ?_
               refine ends_still (v := Value.int .i64 8) (by kernel_rfl) (by kernel_rfl) ?_
               have HS371 := HS101.drop
               have HS372 := HS371.drop
               replace h := JR170 _ h
               injection h with h
               injection h with h0_ h
               subst h0_ h
               exact ⟨f78, s3, rfl, (L36.trans L79), HS372, (HO4.mono (L36.trans L79)), trivial⟩
             · have c160 : ¬ (¬ (((mfind s5 (((rd l7 x40).Row).ID)).isSome) = true)) := c160
               refine wpRwI 58 (x := (!((mfind s5 (((rd l7 x40).Row).ID)).isSome))) (v := false) (by kernel_rfl) (congrArg (fun b_ => !b_) (show (mfind s5 (((rd l7 x40).Row).ID)).isSome = true from (Decidable.of_not_not c160)) : (!((mfind s5 (((rd l7 x40).Row).ID)).isSome)) = false) ?_
               refine wpRwI 64 (x := (!((mfind s5 (((rd l7 x40).Row).ID)).isSome))) (v := false) (by kernel_rfl) (congrArg (fun b_ => !b_) (show (mfind s5 (((rd l7 x40).Row).ID)).isSome = true from (Decidable.of_not_not c160)) : (!((mfind s5 (((rd l7 x40).Row).ID)).isSome)) = false) ?_
               refine wpRwI 65 (x := (!((mfind s5 (((rd l7 x40).Row).ID)).isSome))) (v := false) (by kernel_rfl) (congrArg (fun b_ => !b_) (show (mfind s5 (((rd l7 x40).Row).ID)).isSome = true from (Decidable.of_not_not c160)) : (!((mfind s5 (((rd l7 x40).Row).ID)).isSome)) = false) ?_
               refine condF (by kernel_rfl) ?_
               refine wp_skip ?_
               refine hn104 _ _ ?_
               refine hn51 _ _ ?_
               refine hK48 _ _ ?_
               refine wp_region_lit ?_
               refine seqL2 (by kernel_rfl) ?_
               refine wpList_nil ?_
               refine hK33 n34 _ _ (Nat.lt_succ_self _) ?_
               have HS192 := HS101.u2
               have HS193 := HS192.u2
               have HS194 := HS193.u2
               have HS195 := HS194.drop
               have HS196 := HS195.drop
               exact ⟨f78, (w64 (x40 + 1)), (fun i_ => [(j39 0), Value.int .i64 x40, Value.pointer (some ⟨b66, 0, none⟩), Value.int .i64 vt76, Value.int .i64 (((rd l7 x40).Row).ID), Value.pointer (some ⟨b96, 0, none⟩), Value.bool ((mfind s5 (((rd l7 x40).Row).ID)).isSome), Value.bool true, Value.int .i64 x40, Value.pointer (some ⟨b62, of63 + (x40 : Int).toNat * 19, none⟩), (ag_Change (rd l7 x40) A65 c65), (ag_Change (rd l7 x40) A65 c65), Value.int .i64 vt76, Value.int .i64 vt76, Value.bool false, (j39 15), Value.pointer (some ⟨b66, 1, none⟩), Value.pointer (some ⟨b66, 1, none⟩), Value.int .i64 (((rd l7 x40).Row).ID), Value.tuple #[(ag_Row (mget zero_Row s5 (((rd l7 x40).Row).ID)) A95 c95), .bool ((mfind s5 (((rd l7 x40).Row).ID)).isSome)], Value.map (mb A1), Value.int .i64 (((rd l7 x40).Row).ID), Value.tuple #[(ag_Row (mget zero_Row s5 (((rd l7 x40).Row).ID)) A95 c95), .bool ((mfind s5 (((rd l7 x40).Row).ID)).isSome)], (ag_Row (mget zero_Row s5 (((rd l7 x40).Row).ID)) A95 c95), Value.bool ((mfind s5 (((rd l7 x40).Row).ID)).isSome), Value.bool false, Value.int .i64 x40, Value.bool false, Value.bool false, undef, undef, undef, undef, undef, undef, undef, undef, undef, Value.bool false, Value.bool false, Value.pointer (some ⟨b66, 0, none⟩), Value.int .i64 ((rd l7 x40).Kind), Value.bool false, Value.bool false, undef, Value.bool false, Value.bool false, Value.pointer (some ⟨b66, 0, none⟩), Value.int .i64 ((rd l7 x40).Kind), Value.bool true, Value.bool true, Value.bool ((mfind s5 (((rd l7 x40).Row).ID)).isSome), Value.bool false, Value.bool false, Value.int .i64 (w64 (x40 + 1))].getD i_ undef), (L36.trans L79), HS196, h, (by kernel_rfl)⟩
           · have c158 : ¬ (((rd l7 x40).Kind) ≠ 1) := c158
             refine seqRwI 61 (x := (((rd l7 x40).Kind) != 1)) (v := false) (by kernel_rfl) (bne_eq_false_iff_eq.mpr (Decidable.of_not_not c158)) ?_
             refine seqRwI 62 (x := (((rd l7 x40).Kind) != 1)) (v := false) (by kernel_rfl) (bne_eq_false_iff_eq.mpr (Decidable.of_not_not c158)) ?_
             refine seqL4 (by kernel_rfl) ?_
             refine wpList_nil ?_
             refine hK157 _ _ ?_
             refine condF (by kernel_rfl) ?_
             refine wp_skip ?_
             refine hn104 _ _ ?_
             refine hn51 _ _ ?_
             refine hK48 _ _ ?_
             refine wp_region_lit ?_
             refine seqL2 (by kernel_rfl) ?_
             refine wpList_nil ?_
             refine hK33 n34 _ _ (Nat.lt_succ_self _) ?_
             have HS197 := HS101.u2
             have HS198 := HS197.u2
             have HS199 := HS198.u2
             have HS200 := HS199.drop
             have HS201 := HS200.drop
             exact ⟨f78, (w64 (x40 + 1)), (fun i_ => [(j39 0), Value.int .i64 x40, Value.pointer (some ⟨b66, 0, none⟩), Value.int .i64 vt76, Value.int .i64 (((rd l7 x40).Row).ID), Value.pointer (some ⟨b96, 0, none⟩), Value.bool ((mfind s5 (((rd l7 x40).Row).ID)).isSome), Value.bool true, Value.int .i64 x40, Value.pointer (some ⟨b62, of63 + (x40 : Int).toNat * 19, none⟩), (ag_Change (rd l7 x40) A65 c65), (ag_Change (rd l7 x40) A65 c65), Value.int .i64 vt76, Value.int .i64 vt76, Value.bool false, (j39 15), Value.pointer (some ⟨b66, 1, none⟩), Value.pointer (some ⟨b66, 1, none⟩), Value.int .i64 (((rd l7 x40).Row).ID), Value.tuple #[(ag_Row (mget zero_Row s5 (((rd l7 x40).Row).ID)) A95 c95), .bool ((mfind s5 (((rd l7 x40).Row).ID)).isSome)], Value.map (mb A1), Value.int .i64 (((rd l7 x40).Row).ID), Value.tuple #[(ag_Row (mget zero_Row s5 (((rd l7 x40).Row).ID)) A95 c95), .bool ((mfind s5 (((rd l7 x40).Row).ID)).isSome)], (ag_Row (mget zero_Row s5 (((rd l7 x40).Row).ID)) A95 c95), Value.bool ((mfind s5 (((rd l7 x40).Row).ID)).isSome), Value.bool false, Value.int .i64 x40, Value.bool false, Value.bool false, undef, undef, undef, undef, undef, undef, undef, undef, undef, Value.bool false, Value.bool false, Value.pointer (some ⟨b66, 0, none⟩), Value.int .i64 ((rd l7 x40).Kind), Value.bool false, Value.bool false, undef, Value.bool false, Value.bool false, Value.pointer (some ⟨b66, 0, none⟩), Value.int .i64 ((rd l7 x40).Kind), Value.bool false, Value.bool false, undef, undef, Value.bool false, Value.int .i64 (w64 (x40 + 1))].getD i_ undef), (L36.trans L79), HS201, h, (by kernel_rfl)⟩
   · have c46 : ¬ (x40 < (l7.length : Int)) := c46
     refine wpRwI 19 (x := (decide (x40 < (l7.length : Int)))) (v := false) (by kernel_rfl) (decide_eq_false c46) ?_
     refine condF (by kernel_rfl) ?_
     refine wp_exit ?_
     refine hx26 _ _ ?_
     exact J169 f35 (fun i_ => [(j39 0), (j39 1), (j39 2), (j39 3), (j39 4), (j39 5), (j39 6), Value.int .i64 x40, Value.bool false, (j39 8), (j39 9), (j39 10), (j39 11), (j39 12), (j39 13), (j39 14), (j39 15), (j39 16), (j39 17), (j39 18), (j39 19), (j39 20), (j39 21), (j39 22), (j39 23), (j39 24), (j39 25), (j39 26), (j39 27), (j39 28), (j39 29), (j39 30), (j39 31), (j39 32), (j39 33), (j39 34), (j39 35), (j39 36), (j39 37), (j39 38), (j39 39), (j39 40), (j39 41), (j39 42), (j39 43), (j39 44), (j39 45), (j39 46), (j39 47), (j39 48), (j39 49), (j39 50), (j39 51), (j39 52), (j39 53), (j39 54)].getD i_ undef) W37 _ L36 h HS38 (by kernel_rfl)

set_option maxRecDepth 100000 in
set_option maxHeartbeats 4000000 in
theorem catalog_replay.calls (k : Nat) (A2 : Option Addr) (c3 : Nat) (c1 : S_Catalog) (versions5 : Int) {t w : World} {f : FM} {H : List Seg} (HS : St t w f (H)) (HR4 : SlR (tSl ty_Change) f A2 c3 c1.Commits) (rr1 : List (Int × S_Row)) (rr2 : Int) (h : catalog_replay k c1 versions5 = some (rr1, rr2)) :
    Calls Try.prog 30 #[.agg #[.slice A2 c1.Commits.length c3], .int .i64 versions5] w (fun e w' => ∃ (g : FM) (A169 : Option Addr) (c170 : Nat) (s171 : Seg), e = .returned (Value.tuple #[.map (mb A169), .int .i64 rr2]) ∧ FM.le f g ∧ St t w' g (s171 :: H) ∧ OwnM (mty ty_Row) 100085 g A169 c170 s171 rr1) := by
 unfold catalog_replay at h
 refine enter Try.func30 rfl (tm := #[.agg #[.slice A2 c1.Commits.length c3], iV versions5, uV, uV, uV, uV, uV, uV, uV, uV, uV, uV, uV, uV, uV, uV, uV, uV, uV, uV, uV, uV, uV, uV, uV, uV, uV, uV, uV, uV, uV, uV, uV, uV]) (by kernel_rfl) ?_
 intro B hret hnor hnp
 refine wp_seq_k (fun K6 hK7 => ?_)
 refine wp_region_lit ?_
 refine seqK rfl (does_box (cs := #[.slice A2 c1.Commits.length c3]) rfl (by kernel_rfl : _ = Value.agg #[.slice A2 c1.Commits.length c3]) rfl HS ?_)
 intro b8 W9 HS10
 refine seqL2 (by kernel_rfl) ?_
 refine wpList_nil ?_
 refine hK7 _ _ ?_
 refine wp_seq_k (fun K12 hK13 => ?_)
 refine wp_region_lit ?_
 refine seqK rfl (does_makeMapR (mty ty_Row) 100085 rfl HS10 ?_)
 intro b14 W15 s16 HS17 HO18
 refine seqL1 (by kernel_rfl) ?_
 refine wpList_nil ?_
 refine hK13 _ _ ?_
 refine wp_seq_k (fun K20 hK21 => ?_)
 refine wp_seq_k (fun K22 hK23 => ?_)
 refine wp_region_lit ?_
 refine seqL1 (by kernel_rfl) ?_
 refine seqK rfl (does_run (run_load rfl Try.underlying32 rfl (by kernel_rfl : _ = Value.pointer (some ⟨b8, 0, none⟩)) (HS17.u1.cell 0)) ?_)
 refine seqL2 (by kernel_rfl) ?_
 refine wpList_nil ?_
 refine hK23 _ _ ?_
 have hq_ := ite_some h; clear h; rcases hq_ with ⟨c25, h⟩ | ⟨c25, h⟩
 · have c25 : (c1.Commits.length : Int) > 32 := c25
   refine wpRwI 14 (x := (decide ((c1.Commits.length : Int) > 32))) (v := true) (by kernel_rfl) (decide_eq_true c25) ?_
   refine condT (by kernel_rfl) ?_
   refine wp_seq_k (fun K26 hK27 => ?_)
   refine wp_region_lit ?_
   refine seqL3 (by kernel_rfl) ?_
   refine wpList_nil ?_
   refine hK27 _ _ ?_
   refine wp_ret ?_
   refine hret _ _ ?_
   refine ends_still (v := Value.tuple #[.map (mb (some ⟨b14, 0, none⟩)), .int .i64 2]) (by kernel_rfl) (by kernel_rfl) ?_
   have HS163 := HS17.u1
   have HS164 := HS163.drop
   injection h with h
   injection h with h0_ h
   subst h0_ h
   exact ⟨f, (some ⟨b14, 0, none⟩), 0, s16, rfl, FM.le.refl _, HS164, HO18⟩
 · have c25 : ¬ ((c1.Commits.length : Int) > 32) := c25
   refine wpRwI 14 (x := (decide ((c1.Commits.length : Int) > 32))) (v := false) (by kernel_rfl) (decide_eq_false c25) ?_
   refine condF (by kernel_rfl) ?_
   refine wp_skip ?_
   refine hK21 _ _ ?_
   refine wp_seq_k (fun K28 hK29 => ?_)
   refine wp_seq_k (fun K30 hK31 => ?_)
   refine wp_region_lit ?_
   refine seqL1 (by kernel_rfl) ?_
   refine seqK rfl (does_run (run_load rfl Try.underlying32 rfl (by kernel_rfl : _ = Value.pointer (some ⟨b8, 0, none⟩)) (HS17.u1.cell 0)) ?_)
   have hq_ := guard_some h; clear h; obtain ⟨c32, h⟩ := hq_
   have c32 : 0 ≤ versions5 := c32
   have hq_ := guard_some h; clear h; obtain ⟨c33, h⟩ := hq_
   have c33 : versions5 ≤ (c1.Commits.length : Int) := c33
   refine seqL1 (by kernel_rfl) ?_
   refine seqK rfl (does_run (run_cutH (e := (tSl ty_Change)) (xs := c1.Commits) rfl Try.underlying32 (by kernel_rfl) (by kernel_rfl : _ = Value.slice A2 c1.Commits.length c3) (by kernel_rfl : _ = Value.int .i64 versions5) c32 c33 HR4.le W15) ?_)
   refine seqL2 (by kernel_rfl) ?_
   refine wpList_nil ?_
   refine hK31 _ _ ?_
   refine blockK (fun B34 hx35 hn36 hr37 ho38 hp39 => ?_)
   have hq_ := bind_some h; clear h; obtain ⟨o93, hv157, h⟩ := hq_
   have JR159 : ∀ z_, some (Sum.inl z_) = some o93 → some z_ = some (rr1, rr2) := by
    intro z_ e_; injection e_ with e_; subst e_; exact h
   have J158 : ∀ (f149 : FM) (s155 : Seg) (s154 : List (Int × S_Row)) (j153 : Nat → Value) (W151 : World) (a_ : Act), FM.le f f149 → some (Sum.inr s154) = some o93 → St t W151 f149 (s155 :: [(b8, .cells #[.slice A2 c1.Commits.length c3] 34 (0, 0))] :: H) → OwnM (mty ty_Row) 100085 f149 (some ⟨b14, 0, none⟩) 0 s155 s154 → a_ = ⟨#[.agg #[.slice A2 c1.Commits.length c3], iV versions5, pV b8 0, uV, (j153 0), (j153 1), .map (mb (some ⟨b14, 0, none⟩)), uV, (j153 2), (j153 3), (j153 4), pV b8 0, .slice A2 c1.Commits.length c3, iV (c1.Commits.length : Int), fV, uV, pV b8 0, .slice A2 c1.Commits.length c3, iV versions5, .slice A2 (c1.Commits.take (versions5).toNat).length c3, iV ((c1.Commits.take (versions5).toNat).length : Int), (j153 5), (j153 6), (j153 7), (j153 8), (j153 9), (j153 10), (j153 11), (j153 12), (j153 13), (j153 14), (j153 15), (j153 16), uV], []⟩ → K28 a_ W151 := by
    intro f149 s155 s154 j153 W151 a_ L150 hj160 HS152 HO156 hfr_; subst hfr_
    injection hj160 with hj160; subst hj160; try dsimp only at h
    simp only [Sum.elim_inr] at h
    refine hK29 _ _ ?_
    refine wp_seq_k (fun K161 hK162 => ?_)
    refine wp_region_lit ?_
    refine seqL3 (by kernel_rfl) ?_
    refine wpList_nil ?_
    refine hK162 _ _ ?_
    refine wp_ret ?_
    refine hret _ _ ?_
    refine ends_still (v := Value.tuple #[.map (mb (some ⟨b14, 0, none⟩)), .int .i64 0]) (by kernel_rfl) (by kernel_rfl) ?_
    have HS167 := HS152.u1
    have HS168 := HS167.drop
    injection h with h
    injection h with h0_ h
    subst h0_ h
    exact ⟨f149, (some ⟨b14, 0, none⟩), 0, s155, rfl, L150, HS168, HO156⟩
   clear h; have h := hv157; clear hv157
   refine loopK (fun n_ a_ w_ => ∃ (f97 : FM) (s103 : Seg) (s102 : List (Int × S_Row)) (x105 : Int) (j101 : Nat → Value), FM.le f f97 ∧ St t w_ f97 (s103 :: [(b8, .cells #[.slice A2 c1.Commits.length c3] 34 (0, 0))] :: H) ∧ OwnM (mty ty_Row) 100085 f97 (some ⟨b14, 0, none⟩) 0 s103 s102 ∧ catalog_replay.l0 k c1 versions5 n_ s102 x105 = some o93 ∧ a_ = ⟨#[.agg #[.slice A2 c1.Commits.length c3], iV versions5, pV b8 0, uV, (j101 0), (j101 1), .map (mb (some ⟨b14, 0, none⟩)), uV, (j101 2), (j101 3), .map (mb (some ⟨b14, 0, none⟩)), pV b8 0, .slice A2 c1.Commits.length c3, iV (c1.Commits.length : Int), fV, uV, pV b8 0, .slice A2 c1.Commits.length c3, iV versions5, .slice A2 (c1.Commits.take (versions5).toNat).length c3, iV ((c1.Commits.take (versions5).toNat).length : Int), iV x105, (j101 4), (j101 5), (j101 6), (j101 7), (j101 8), (j101 9), (j101 10), (j101 11), (j101 12), (j101 13), (j101 14), uV], []⟩) k ⟨f, s16, ([] : List (Int × S_Row)), 0, (fun i_ => [Value.map none, Value.int .i64 0, undef, undef, undef, undef, undef, undef, undef, undef, undef, undef, undef, undef, undef].getD i_ undef), (FM.le.refl _), HS17, HO18, h, (by kernel_rfl)⟩ ?_
   clear h
   rintro n96 _ W99 ⟨f97, s103, s102, x105, j101, L98, HS100, HO104, h, rfl⟩ K94 hK95
   obtain _ | n96 := n96
   · exact nomatch h
   simp only [catalog_replay.l0] at h
   refine wp_seq_k (fun K106 hK107 => ?_)
   refine wp_region_lit ?_
   refine seqL1 (by kernel_rfl) ?_
   refine wpList_nil ?_
   refine hK107 _ _ ?_
   refine wp_seq_k (fun K108 hK109 => ?_)
   have hq_ := ite_some h; clear h; rcases hq_ with ⟨c111, h⟩ | ⟨c111, h⟩
   · have c111 : x105 < ((c1.Commits.take (versions5).toNat).length : Int) := c111
     refine wpRwI 22 (x := (decide (x105 < ((c1.Commits.take (versions5).toNat).length : Int)))) (v := true) (by kernel_rfl) (decide_eq_true c111) ?_
     refine condT (by kernel_rfl) ?_
     refine wp_skip ?_
     refine hK109 _ _ ?_
     refine wp_seq_k (fun K112 hK113 => ?_)
     refine blockK (fun B114 hx115 hn116 hr117 ho118 hp119 => ?_)
     refine wp_seq_k (fun K121 hK122 => ?_)
     refine wp_region_lit ?_
     have hq_ := guard_some h; clear h; obtain ⟨c123, h⟩ := hq_
     have c123 : 0 ≤ x105 := c123
     obtain ⟨b127, of128, cs124, hA129, hr125, hc126⟩ := ((HR4.take (versions5).toNat).mono L98).at (i := x105) c123 c111
     obtain ⟨A130, c130, rfl, HR130⟩ := hr125
     refine seqK rfl (does_run (run_indexE hA129 (sz := 1) rfl Try.underlying32 (by kernel_rfl) (by kernel_rfl : _ = Value.slice A2 (c1.Commits.take (versions5).toNat).length c3) (by kernel_rfl : _ = Value.int .i64 x105) c123 c111 W99) ?_)
     refine seqK rfl (does_run (run_load rfl Try.underlying28 rfl (by kernel_rfl : _ = Value.pointer (some ⟨b127, of128 + (x105 : Int).toNat * 1, none⟩)) ((hc126 (FM.le.refl _) HS100) 0 (by decide))) ?_)
     refine seqL1 (by kernel_rfl) ?_
     refine wpList_nil ?_
     refine hK122 _ _ ?_
     refine wp_seq_k (fun K131 hK132 => ?_)
     refine wp_region_lit ?_
     have hq_ := bind_some h; clear h; obtain ⟨⟨vt133, vt134⟩, hc135, h⟩ := hq_
     refine seqL2 (by kernel_rfl) ?_
     refine seqK rfl (does_call (f := 31) (args := #[.map (mb (some ⟨b14, 0, none⟩)), .slice A130 (rd (c1.Commits.take (versions5).toNat) x105).length c130]) (by kernel_rfl) (catalog_state_apply.calls k (some ⟨b14, 0, none⟩) 0 s103 A130 c130 s102 (rd (c1.Commits.take (versions5).toNat) x105) HS100 HO104 HR130 vt133 vt134 hc135) ?_)
     rintro _ W138 ⟨f136, s140, rfl, L137, HS139, HO141, HL142⟩
     refine ⟨_, rfl, ?_⟩
     refine seqL1 (by kernel_rfl) ?_
     refine wpList_nil ?_
     refine hK132 _ _ ?_
     refine wp_seq_k (fun K143 hK144 => ?_)
     refine wp_region_lit ?_
     refine seqL2 (by kernel_rfl) ?_
     refine wpList_nil ?_
     refine hK144 _ _ ?_
     have hq_ := ite_some h; clear h; rcases hq_ with ⟨c146, h⟩ | ⟨c146, h⟩
     · have c146 : vt133 ≠ 0 := c146
       refine wpRwI 29 (x := (vt133 != 0)) (v := true) (by kernel_rfl) (bne_iff_ne.mpr c146) ?_
       refine condT (by kernel_rfl) ?_
       refine wp_seq_k (fun K147 hK148 => ?_)
       refine wp_region_lit ?_
       refine seqL4 (by kernel_rfl) ?_
       refine wpList_nil ?_
       refine hK148 _ _ ?_
       refine wp_ret ?_
       refine hr117 _ _ ?_
       refine hr37 _ _ ?_
       refine hret _ _ ?_
       refine ends_still (v := Value.tuple #[.map (mb (some ⟨b14, 0, none⟩)), .int .i64 vt133]) (by kernel_rfl) (by kernel_rfl) ?_
       have HS165 := HS139.u1
       have HS166 := HS165.drop
       replace h := JR159 _ h
       injection h with h
       injection h with h0_ h
       subst h0_ h
       exact ⟨f136, (some ⟨b14, 0, none⟩), 0, s140, rfl, (L98.trans L137), HS166, HO141⟩
     · have c146 : ¬ (vt133 ≠ 0) := c146
       refine wpRwI 29 (x := (vt133 != 0)) (v := false) (by kernel_rfl) (bne_eq_false_iff_eq.mpr (Decidable.of_not_not c146)) ?_
       refine condF (by kernel_rfl) ?_
       refine wp_skip ?_
       refine hn116 _ _ ?_
       refine hK113 _ _ ?_
       refine wp_region_lit ?_
       refine seqL2 (by kernel_rfl) ?_
       refine wpList_nil ?_
       refine hK95 n96 _ _ (Nat.lt_succ_self _) ?_
       exact ⟨f136, s140, vt134, (w64 (x105 + 1)), (fun i_ => [(j101 0), (j101 1), Value.slice A130 (rd (c1.Commits.take (versions5).toNat) x105).length c130, Value.int .i64 vt133, Value.bool true, Value.pointer (some ⟨b127, of128 + (x105 : Int).toNat * 1, none⟩), Value.slice A130 (rd (c1.Commits.take (versions5).toNat) x105).length c130, Value.map (mb (some ⟨b14, 0, none⟩)), Value.slice A130 (rd (c1.Commits.take (versions5).toNat) x105).length c130, Value.int .i64 vt133, Value.int .i64 vt133, Value.bool false, (j101 12), (j101 13), Value.int .i64 (w64 (x105 + 1))].getD i_ undef), (L98.trans L137), HS139, HO141, h, (by kernel_rfl)⟩
   · have c111 : ¬ (x105 < ((c1.Commits.take (versions5).toNat).length : Int)) := c111
     refine wpRwI 22 (x := (decide (x105 < ((c1.Commits.take (versions5).toNat).length : Int)))) (v := false) (by kernel_rfl) (decide_eq_false c111) ?_
     refine condF (by kernel_rfl) ?_
     refine wp_exit ?_
     refine hx35 _ _ ?_
     exact J158 f97 s103 s102 (fun i_ => [(j101 0), (j101 1), (j101 2), (j101 3), Value.map (mb (some ⟨b14, 0, none⟩)), Value.int .i64 x105, Value.bool false, (j101 5), (j101 6), (j101 7), (j101 8), (j101 9), (j101 10), (j101 11), (j101 12), (j101 13), (j101 14)].getD i_ undef) W99 _ L98 h HS100 HO104 (by kernel_rfl)

set_option maxRecDepth 100000 in
set_option maxHeartbeats 4000000 in
theorem slices_Clone_Change.calls (k : Nat) (A2 : Option Addr) (c3 : Nat) (s1 : List S_Change) {t w : World} {f : FM} {H : List Seg} (HS : St t w f (H)) (HR4 : SlR ty_Change f A2 c3 s1) (rr1 : List S_Change) (h : slices_Clone_Change k s1 = some rr1) :
    Calls Try.prog 45 #[.slice A2 s1.length c3] w (fun e w' => ∃ (g : FM) (A31 : Option Addr) (c32 : Nat) (s33 : Seg), e = .returned (Value.slice A31 rr1.length c32) ∧ FM.le f g ∧ St t w' g (s33 :: H) ∧ Own ty_Change 71 g A31 c32 s33 rr1) := by
 unfold slices_Clone_Change at h
 refine enter Try.func45 rfl (tm := #[.slice A2 s1.length c3, uV, uV, uV, uV, uV, uV, uV]) (by kernel_rfl) ?_
 intro B hret hnor hnp
 refine wp_seq_k (fun K5 hK6 => ?_)
 refine wp_region_lit ?_
 refine seqL1 (by kernel_rfl) ?_
 refine wpList_nil ?_
 refine hK6 _ _ ?_
 refine wp_seq_k (fun K7 hK8 => ?_)
 refine wp_seq_k (fun K9 hK10 => ?_)
 refine wp_region_lit ?_
 refine seqL1 (by kernel_rfl) ?_
 obtain _ | ad11 := A2
 · obtain rfl := HR4.nil_eq
   have hq_ := guard_some h; clear h; obtain ⟨_, h⟩ := hq_
   refine seqL1 (by kernel_rfl) ?_
   refine wpList_nil ?_
   refine hK10 _ _ ?_
   refine condT (by kernel_rfl) ?_
   refine wp_seq_k (fun K27 hK28 => ?_)
   refine wp_region_lit ?_
   refine seqL1 (by kernel_rfl) ?_
   refine wpList_nil ?_
   refine hK28 _ _ ?_
   refine wp_ret ?_
   refine hret _ _ ?_
   have HS29 := HS.cons_nil
   refine ends_still (v := Value.slice none 0 0) (by kernel_rfl) (by kernel_rfl) ?_
   injection h with h
   subst h
   exact ⟨f, none, 0, [], rfl, FM.le.refl _, HS29, (Own.nil _)⟩
 · refine seqL1 (by kernel_rfl) ?_
   refine wpList_nil ?_
   refine hK10 _ _ ?_
   refine condF (by kernel_rfl) ?_
   refine wp_skip ?_
   refine hK8 _ _ ?_
   refine wp_seq_k (fun K12 hK13 => ?_)
   refine wp_region_lit ?_
   refine seqK rfl (does_lit (e := ty_Change) (E := 71) (vs := #[]) (cs := #[]) (xs := ([] : List S_Change)) rfl Try.underlying28 (by kernel_rfl) (by kernel_rfl) rfl rfl HS ?_ (by decide))
   intro b14 W15 s16 HS17 _ HO18
   have hq_ := guard_some h; clear h; obtain ⟨c20, h⟩ := hq_
   have c20 : (([] : List S_Change).length + s1.length) * 168 ≤ 140737488355328 := c20
   refine seqL1 (by kernel_rfl) ?_
   refine seqK rfl (does_append (e := ty_Change) (E := 71) (xs := ([] : List S_Change)) (ys := s1) rfl (by kernel_rfl : _ = Value.slice (some ⟨b14, 0, none⟩) ([] : List S_Change).length 0) (by kernel_rfl : _ = Value.slice (some ad11) s1.length c3) Try.underlying28 inf71 HO18 HS17 (HR4.rc HS17) c20 (lim63 c20 (by decide)) ?_)
   intro A21 c22 s23 W24 HS25 HO26
   refine seqL1 (by kernel_rfl) ?_
   refine wpList_nil ?_
   refine hK13 _ _ ?_
   refine wp_ret ?_
   refine hret _ _ ?_
   refine ends_still (v := Value.slice A21 (([] : List S_Change) ++ s1).length c22) (by kernel_rfl) (by kernel_rfl) ?_
   injection h with h
   subst h
   exact ⟨f, A21, c22, s23, rfl, FM.le.refl _, HS25, HO26⟩

set_option maxRecDepth 100000 in
set_option maxHeartbeats 4000000 in
theorem catalog_copies.calls (k : Nat) (A2 : Option Addr) (c3 : Nat) (l1 : List S_Change) {t w : World} {f : FM} {H : List Seg} (HS : St t w f (H)) (HR4 : SlR ty_Change f A2 c3 l1) (rr1 : List S_Change) (h : catalog_copies k l1 = some rr1) :
    Calls Try.prog 29 #[.slice A2 l1.length c3] w (fun e w' => ∃ (g : FM) (A157 : Option Addr) (c158 : Nat) (s159 : Seg), e = .returned (Value.slice A157 rr1.length c158) ∧ FM.le f g ∧ St t w' g (s159 :: H) ∧ Own ty_Change 71 g A157 c158 s159 rr1) := by
 unfold catalog_copies at h
 refine enter Try.func29 rfl (tm := #[.slice A2 l1.length c3, uV, uV, uV, uV, uV, uV, uV, uV, uV, uV, uV, uV, uV, uV, uV, uV, uV, uV, uV, uV, uV, uV, uV, uV, uV]) (by kernel_rfl) ?_
 intro B hret hnor hnp
 refine wp_seq_k (fun K5 hK6 => ?_)
 refine wp_region_lit ?_
 refine seqL1 (by kernel_rfl) ?_
 refine wpList_nil ?_
 refine hK6 _ _ ?_
 refine wp_seq_k (fun K7 hK8 => ?_)
 refine wp_region_lit ?_
 have hq_ := bind_some h; clear h; obtain ⟨vt9, hc10, h⟩ := hq_
 refine seqL1 (by kernel_rfl) ?_
 refine seqK rfl (does_call (f := 45) (args := #[.slice A2 l1.length c3]) (by kernel_rfl) (slices_Clone_Change.calls k A2 c3 l1 HS HR4 vt9 hc10) ?_)
 rintro _ W13 ⟨f11, A15, c16, s17, rfl, L12, HS14, HO18⟩
 refine ⟨_, rfl, ?_⟩
 refine seqL1 (by kernel_rfl) ?_
 refine wpList_nil ?_
 refine hK8 _ _ ?_
 refine wp_seq_k (fun K20 hK21 => ?_)
 refine wp_seq_k (fun K22 hK23 => ?_)
 refine wp_region_lit ?_
 refine seqL3 (by kernel_rfl) ?_
 refine wpList_nil ?_
 refine hK23 _ _ ?_
 refine blockK (fun B24 hx25 hn26 hr27 ho28 hp29 => ?_)
 have hq_ := bind_some h; clear h; obtain ⟨o84, hv152, h⟩ := hq_
 have J153 : ∀ (f143 : FM) (s149 : Seg) (out148 : List S_Change) (j147 : Nat → Value) (W145 : World) (a_ : Act), FM.le f11 f143 → some (out148) = some o84 → St t W145 f143 (s149 :: H) → Own ty_Change 71 f143 A15 c16 s149 out148 → out148.length = vt9.length → a_ = ⟨#[.slice A2 l1.length c3, uV, .slice none 0 0, .slice A15 out148.length c16, (j147 0), .slice A2 l1.length c3, (j147 1), (j147 2), iV (vt9.length : Int), (j147 3), (j147 4), (j147 5), (j147 6), (j147 7), (j147 8), (j147 9), (j147 10), (j147 11), (j147 12), (j147 13), (j147 14), (j147 15), (j147 16), (j147 17), (j147 18), uV], []⟩ → K20 a_ W145 := by
  intro f143 s149 out148 j147 W145 a_ L144 hj154 HS146 HO150 HL151 hfr_; subst hfr_
  injection hj154 with hj154; subst hj154; try dsimp only at h
  refine hK21 _ _ ?_
  refine wp_seq_k (fun K155 hK156 => ?_)
  refine wp_region_lit ?_
  refine seqL2 (by kernel_rfl) ?_
  refine wpList_nil ?_
  refine hK156 _ _ ?_
  refine wp_ret ?_
  refine hret _ _ ?_
  refine ends_still (v := Value.slice A15 out148.length c16) (by kernel_rfl) (by kernel_rfl) ?_
  injection h with h
  subst h
  exact ⟨f143, A15, c16, s149, rfl, (L12.trans L144), HS146, HO150⟩
 clear h; have h := hv152; clear hv152
 refine loopK (fun n_ a_ w_ => ∃ (f88 : FM) (s94 : Seg) (out93 : List S_Change) (x97 : Int) (j92 : Nat → Value), FM.le f11 f88 ∧ St t w_ f88 (s94 :: H) ∧ Own ty_Change 71 f88 A15 c16 s94 out93 ∧ out93.length = vt9.length ∧ catalog_copies.l0 k vt9 n_ out93 x97 = some o84 ∧ a_ = ⟨#[.slice A2 l1.length c3, uV, .slice none 0 0, .slice A15 out93.length c16, (j92 0), .slice A2 l1.length c3, .slice A15 vt9.length c16, .slice A15 vt9.length c16, iV (vt9.length : Int), iV x97, (j92 1), (j92 2), (j92 3), (j92 4), (j92 5), (j92 6), (j92 7), (j92 8), (j92 9), (j92 10), (j92 11), (j92 12), (j92 13), (j92 14), (j92 15), uV], []⟩) k ⟨f11, s17, vt9, 0, (fun i_ => [undef, undef, undef, undef, undef, undef, undef, undef, undef, undef, undef, undef, undef, undef, undef, undef].getD i_ undef), (FM.le.refl _), HS14, HO18, rfl, h, (by kernel_rfl)⟩ ?_
 clear h
 rintro n87 _ W90 ⟨f88, s94, out93, x97, j92, L89, HS91, HO95, HL96, h, rfl⟩ K85 hK86
 obtain _ | n87 := n87
 · exact nomatch h
 simp only [catalog_copies.l0] at h
 refine wp_seq_k (fun K98 hK99 => ?_)
 refine wp_region_lit ?_
 refine seqL1 (by kernel_rfl) ?_
 refine wpList_nil ?_
 refine hK99 _ _ ?_
 refine wp_seq_k (fun K100 hK101 => ?_)
 have hq_ := ite_some h; clear h; rcases hq_ with ⟨c103, h⟩ | ⟨c103, h⟩
 · have c103 : x97 < (vt9.length : Int) := c103
   refine wpRwI 10 (x := (decide (x97 < (vt9.length : Int)))) (v := true) (by kernel_rfl) (decide_eq_true c103) ?_
   refine condT (by kernel_rfl) ?_
   refine wp_skip ?_
   refine hK101 _ _ ?_
   refine wp_seq_k (fun K104 hK105 => ?_)
   refine blockK (fun B106 hx107 hn108 hr109 ho110 hp111 => ?_)
   refine wp_seq_k (fun K113 hK114 => ?_)
   refine wp_region_lit ?_
   refine seqL2 (by kernel_rfl) ?_
   refine wpList_nil ?_
   refine hK114 _ _ ?_
   refine wp_region_lit ?_
   have hq_ := guard_some h; clear h; obtain ⟨c115, h⟩ := hq_
   have c115 : 0 ≤ x97 := c115
   have hq_ := guard_some h; clear h; obtain ⟨c116, h⟩ := hq_
   have c116 : x97 < (out93.length : Int) := c116
   obtain ⟨b120, of121, cs117, hA122, hr118, hc119⟩ := HO95.at (i := x97) c115 c116
   obtain ⟨A123, c123, rfl, HR123⟩ := hr118
   refine seqL4 (by kernel_rfl) ?_
   refine seqK rfl (does_run (run_indexE hA122 (sz := 19) rfl Try.underlying28 (by kernel_rfl) (by kernel_rfl : _ = Value.slice A15 out93.length c16) (by kernel_rfl : _ = Value.int .i64 x97) c115 c116 W90) ?_)
   refine seqL2 (by kernel_rfl) ?_
   refine seqK rfl (does_run (run_load rfl Try.underlying22 rfl (by kernel_rfl : _ = Value.pointer (some ⟨b120, of121 + (x97 : Int).toNat * 19 + 1 + 16, none⟩)) ((hc119 HS91) 17 (by decide))) ?_)
   have hq_ := bind_some h; clear h; obtain ⟨vt124, hc125, h⟩ := hq_
   refine seqK rfl (does_call (f := 46) (args := #[.slice A123 (((rd out93 x97).Row).Frames).length c123]) (by kernel_rfl) (slices_Clone_int.calls k A123 c123 (((rd out93 x97).Row).Frames) HS91 HR123 vt124 hc125) ?_)
   rintro _ W128 ⟨f126, A130, c131, s132, rfl, L127, HS129, HO133⟩
   refine ⟨_, rfl, ?_⟩
   refine seqK rfl (does_run (run_indexE hA122 (sz := 19) rfl Try.underlying28 (by kernel_rfl) (by kernel_rfl : _ = Value.slice A15 out93.length c16) (by kernel_rfl : _ = Value.int .i64 x97) c115 c116 W128) ?_)
   obtain ⟨f135, L136, HS137, HR138⟩ := HO133.freeze HS129
   refine seqL2 (by kernel_rfl) ?_
   refine seqK rfl (does_putP (e := ty_Change) (E := 71) (fo := 17) (vs := [.slice A130 vt124.length c131]) (u := (⟨(rd out93 x97).Kind, (⟨((rd out93 x97).Row).ID, (((rd out93 x97).Row).Box), (((rd out93 x97).Row).Flux), (((rd out93 x97).Row).When), vt124, ((rd out93 x97).Row).Marks⟩ : S_Row)⟩ : S_Change)) (i := x97) rfl (by kernel_rfl) (HO95.mono (L127.trans L136)) HS137 hA122 (by kernel_rfl : _ = Value.pointer (some ⟨b120, of121 + (x97 : Int).toNat * 19 + 1 + 16, none⟩)) (by kernel_rfl : _ = Value.slice A130 vt124.length c131) rfl rfl (by intro u_ hu_; simp only [List.mem_cons, List.not_mem_nil, or_false] at hu_; subst hu_; rfl) (u0 := (rd out93 x97)) ⟨A123, c123, rfl, (HR123.mono (L127.trans L136))⟩ rfl ⟨A130, c131, rfl, HR138⟩ (Nat.le_of_ble_eq_true rfl) (hc119 HS137) c115 c116 ?_)
   intro W139 s140 HS141 HO142
   refine seqRwS 3 (A := A15) (m := out93.length) (n := (out93.set (x97).toNat (⟨(rd out93 x97).Kind, (⟨((rd out93 x97).Row).ID, (((rd out93 x97).Row).Box), (((rd out93 x97).Row).Flux), (((rd out93 x97).Row).When), vt124, ((rd out93 x97).Row).Marks⟩ : S_Row)⟩ : S_Change)).length) (c := c16) (by kernel_rfl) (List.length_set).symm ?_
   refine seqRwS 12 (A := A15) (m := out93.length) (n := (out93.set (x97).toNat (⟨(rd out93 x97).Kind, (⟨((rd out93 x97).Row).ID, (((rd out93 x97).Row).Box), (((rd out93 x97).Row).Flux), (((rd out93 x97).Row).When), vt124, ((rd out93 x97).Row).Marks⟩ : S_Row)⟩ : S_Change)).length) (c := c16) (by kernel_rfl) (List.length_set).symm ?_
   refine seqRwS 14 (A := A15) (m := out93.length) (n := (out93.set (x97).toNat (⟨(rd out93 x97).Kind, (⟨((rd out93 x97).Row).ID, (((rd out93 x97).Row).Box), (((rd out93 x97).Row).Flux), (((rd out93 x97).Row).When), vt124, ((rd out93 x97).Row).Marks⟩ : S_Row)⟩ : S_Change)).length) (c := c16) (by kernel_rfl) (List.length_set).symm ?_
   refine wpList_nil ?_
   refine hn108 _ _ ?_
   refine hK105 _ _ ?_
   refine wp_region_lit ?_
   refine seqL2 (by kernel_rfl) ?_
   refine wpList_nil ?_
   refine hK86 n87 _ _ (Nat.lt_succ_self _) ?_
   exact ⟨f135, s140, (out93.set (x97).toNat (⟨(rd out93 x97).Kind, (⟨((rd out93 x97).Row).ID, (((rd out93 x97).Row).Box), (((rd out93 x97).Row).Flux), (((rd out93 x97).Row).When), vt124, ((rd out93 x97).Row).Marks⟩ : S_Row)⟩ : S_Change)), (w64 (x97 + 1)), (fun i_ => [Value.int .i64 x97, Value.bool true, Value.int .i64 x97, Value.slice A15 (out93.set (x97).toNat (⟨(rd out93 x97).Kind, (⟨((rd out93 x97).Row).ID, (((rd out93 x97).Row).Box), (((rd out93 x97).Row).Flux), (((rd out93 x97).Row).When), vt124, ((rd out93 x97).Row).Marks⟩ : S_Row)⟩ : S_Change)).length c16, Value.int .i64 x97, Value.slice A15 (out93.set (x97).toNat (⟨(rd out93 x97).Kind, (⟨((rd out93 x97).Row).ID, (((rd out93 x97).Row).Box), (((rd out93 x97).Row).Flux), (((rd out93 x97).Row).When), vt124, ((rd out93 x97).Row).Marks⟩ : S_Row)⟩ : S_Change)).length c16, Value.int .i64 x97, Value.pointer (some ⟨b120, of121 + (x97 : Int).toNat * 19, none⟩), Value.pointer (some ⟨b120, of121 + (x97 : Int).toNat * 19 + 1, none⟩), Value.pointer (some ⟨b120, of121 + (x97 : Int).toNat * 19 + 1 + 16, none⟩), Value.slice A123 (((rd out93 x97).Row).Frames).length c123, Value.slice A130 vt124.length c131, Value.pointer (some ⟨b120, of121 + (x97 : Int).toNat * 19, none⟩), Value.pointer (some ⟨b120, of121 + (x97 : Int).toNat * 19 + 1, none⟩), Value.pointer (some ⟨b120, of121 + (x97 : Int).toNat * 19 + 1 + 16, none⟩), Value.int .i64 (w64 (x97 + 1))].getD i_ undef), (L89.trans (L127.trans L136)), HS141, HO142, (List.length_set.trans HL96), h, (by kernel_rfl)⟩
 · have c103 : ¬ (x97 < (vt9.length : Int)) := c103
   refine wpRwI 10 (x := (decide (x97 < (vt9.length : Int)))) (v := false) (by kernel_rfl) (decide_eq_false c103) ?_
   refine condF (by kernel_rfl) ?_
   refine wp_exit ?_
   refine hx25 _ _ ?_
   exact J153 f88 s94 out93 (fun i_ => [(j92 0), Value.slice A15 vt9.length c16, Value.slice A15 vt9.length c16, Value.int .i64 x97, Value.bool false, (j92 2), (j92 3), (j92 4), (j92 5), (j92 6), (j92 7), (j92 8), (j92 9), (j92 10), (j92 11), (j92 12), (j92 13), (j92 14), (j92 15)].getD i_ undef) W90 _ L89 h HS91 HO95 HL96 (by kernel_rfl)

end Go.Sp.M4
